import PyProof.Rows.All
import Wide.All
import OpenK.AllK
import Wide.FinOn
import Open.SpecLaws
import KE.OsGo
import KE.Datum
import HandS.ForSpec
import HandS.TryMany
import HandS.Comp
import HandS.Iter
import HandS.Walk
import HandS.Evl
import HandS.Codes
import HandS.Wide
import PySem.Challenge.RW_comesnext_s01_answers
set_option Elab.async false
set_option linter.all false
set_option maxRecDepth 100000
set_option maxHeartbeats 4000000
/-! Fractions: Km522.Frac is Rat. -/
namespace CN
open Km522

def fr (r : Rat) : Frac := ⟨r.num, r.den⟩
theorem fr_inj {a b : Rat} (h : fr a = fr b) : a = b := by
  have h1 : a.num = b.num := congrArg Frac.n h
  have h2 : a.den = b.den := congrArg Frac.d h
  exact Rat.ext h1 h2
theorem mk_fr (n : Int) (d : Nat) : mk n d = fr (mkRat n d) := by
  unfold mk fr mkRat
  by_cases h : d = 0
  · rw [if_pos h, dif_pos h] <;> rfl
  · rw [if_neg h, dif_neg h, Rat.normalize_eq]
theorem zero_fr : zero = fr 0 := rfl
theorem one_fr : one = fr 1 := rfl
theorem fr_n (a : Rat) : (fr a).n = a.num := rfl
theorem fr_d (a : Rat) : (fr a).d = a.den := rfl
theorem add_fr (a b : Rat) : add (fr a) (fr b) = fr (a + b) := by
  unfold add
  rw [mk_fr, Rat.add_def, Rat.normalize_eq_mkRat]
  rfl
theorem sub_fr (a b : Rat) : sub (fr a) (fr b) = fr (a - b) := by
  unfold sub
  rw [mk_fr, Rat.sub_def, Rat.normalize_eq_mkRat]
  rfl
theorem mul_fr (a b : Rat) : mul (fr a) (fr b) = fr (a * b) := by
  unfold mul
  rw [mk_fr, Rat.mul_def, Rat.normalize_eq_mkRat]
  rfl
theorem den_pos (a : Rat) : (0 : Int) < a.den := by have := a.den_nz; omega
theorem mk_div (n : Int) (d : Nat) : mkRat n d = (n : Rat) / (d : Rat) := Rat.mkRat_eq_div n d
theorem self_div (a : Rat) : a = (a.num : Rat) / (a.den : Rat) := by
  have h := mk_div a.num a.den
  rw [Rat.mkRat_self] at h
  exact h
theorem quot_fr (a b : Rat) : quot (fr a) (fr b) = fr (a / b) := by
  unfold quot
  rw [fr_n, fr_d, fr_n, fr_d]
  have da : (a.den : Rat) ≠ 0 := fun z => a.den_nz (Rat.natCast_eq_zero_iff.mp z)
  have db : (b.den : Rat) ≠ 0 := fun z => b.den_nz (Rat.natCast_eq_zero_iff.mp z)
  have key : ∀ s : Int, (b.num.natAbs : Int) = s → ((a.den * b.num.natAbs : Nat) : Rat) = (a.den : Rat) * (s : Rat) := fun s e => by
    rw [Rat.natCast_mul, ← Rat.intCast_natCast b.num.natAbs, e]
  by_cases h : b.num < 0
  · have nb : (b.num : Rat) ≠ 0 := fun z => by
      have := Rat.intCast_eq_zero_iff.mp z
      omega
    rw [if_pos h, mk_fr, mk_div, key (-b.num) (by omega)]
    congr 1
    conv => rhs; rw [self_div a, self_div b]
    rw [Rat.intCast_sub, Rat.intCast_mul, Rat.intCast_neg, Rat.intCast_natCast]
    have z0 : ((0 : Int) : Rat) = 0 := rfl
    rw [z0]
    generalize (a.num : Rat) = x at *
    generalize (b.num : Rat) = y at *
    generalize (a.den : Rat) = u at *
    generalize (b.den : Rat) = v at *
    clear key
    grind
  · rw [if_neg h, mk_fr, mk_div, key b.num (by omega)]
    congr 1
    conv => rhs; rw [self_div a, self_div b]
    rw [Rat.intCast_mul, Rat.intCast_natCast]
    by_cases nb : (b.num : Rat) = 0
    · rw [nb]
      generalize (a.num : Rat) = x at *
      generalize (a.den : Rat) = u at *
      generalize (b.den : Rat) = v at *
      clear key
      grind
    · generalize (a.num : Rat) = x at *
      generalize (b.num : Rat) = y at *
      generalize (a.den : Rat) = u at *
      generalize (b.den : Rat) = v at *
      clear key
      grind
theorem less_fr (a b : Rat) : less (fr a) (fr b) = decide (a < b) := by
  unfold less
  rw [fr_n, fr_d, fr_n, fr_d]
  exact decide_eq_decide.mpr (Rat.lt_iff a b).symm
theorem foldl_add_fr (l : List Rat) (z : Rat) : (l.map fr).foldl add (fr z) = fr (z + l.sum) := by
  induction l generalizing z with
  | nil => rw [List.map_nil, List.foldl_nil, List.sum_nil, Rat.add_zero]
  | cons a l ih =>
    rw [List.map_cons, List.foldl_cons, add_fr, ih, List.sum_cons, Rat.add_assoc]
theorem sumF_fr (l : List Rat) : sumF (l.map fr) = fr l.sum := by
  unfold sumF
  rw [zero_fr, foldl_add_fr, Rat.zero_add]
end CN
/-! Sums over the first n numbers; elimination over Rat, by functions. -/
namespace CN

def S : Nat → (Nat → Rat) → Rat
  | 0, _ => 0
  | n + 1, f => S n f + f n
theorem S_congr {n : Nat} {f g : Nat → Rat} (h : ∀ i, i < n → f i = g i) : S n f = S n g := by
  induction n with
  | zero => rfl
  | succ n ih =>
    show S n f + f n = S n g + g n
    rw [ih fun i hi => h i (by omega), h n (by omega)]
theorem S_add (n : Nat) (f g : Nat → Rat) : S n (fun i => f i + g i) = S n f + S n g := by
  induction n with
  | zero => show (0 : Rat) = 0 + 0; grind
  | succ n ih =>
    show S n _ + (f n + g n) = (S n f + f n) + (S n g + g n)
    rw [ih]
    grind
theorem S_mul (n : Nat) (c : Rat) (f : Nat → Rat) : S n (fun i => c * f i) = c * S n f := by
  induction n with
  | zero => show (0 : Rat) = c * 0; grind
  | succ n ih =>
    show S n _ + c * f n = c * (S n f + f n)
    rw [ih]
    grind
theorem S_zero (n : Nat) : S n (fun _ => 0) = 0 := by
  induction n with
  | zero => rfl
  | succ n ih => show S n _ + 0 = 0; rw [ih]; grind
theorem S_le {n : Nat} {f g : Nat → Rat} (h : ∀ i, i < n → f i ≤ g i) : S n f ≤ S n g := by
  induction n with
  | zero => exact Rat.le_refl
  | succ n ih =>
    have h1 := ih fun i hi => h i (by omega)
    have h2 := h n (by omega)
    show S n f + f n ≤ S n g + g n
    grind
theorem S_nonneg {n : Nat} {f : Nat → Rat} (h : ∀ i, i < n → 0 ≤ f i) : 0 ≤ S n f := by
  have := S_le (f := fun _ => 0) h
  rw [S_zero] at this
  exact this
/-- all but one are at most 0 -/
theorem S_le_one {n : Nat} {f : Nat → Rat} {k : Nat} (hk : k < n) (h : ∀ i, i < n → i ≠ k → f i ≤ 0) : S n f ≤ f k := by
  induction n with
  | zero => omega
  | succ n ih =>
    show S n f + f n ≤ f k
    by_cases e : k = n
    · subst e
      have : S k f ≤ S k (fun _ => 0) := S_le fun i hi => h i (by omega) (by omega)
      rw [S_zero] at this
      grind
    · have h1 := ih (by omega) fun i hi hn => h i (by omega) hn
      have h2 := h n (by omega) (by omega)
      grind
theorem S_one {n : Nat} {f : Nat → Rat} {k : Nat} (hk : k < n) (h : ∀ i, i < n → i ≠ k → f i = 0) : S n f = f k := by
  induction n with
  | zero => omega
  | succ n ih =>
    show S n f + f n = f k
    by_cases e : k = n
    · subst e
      have : S k f = S k (fun _ => 0) := S_congr fun i hi => h i (by omega) (by omega)
      rw [this, S_zero]
      grind
    · rw [ih (by omega) fun i hi hn => h i (by omega) hn, h n (by omega) (by omega)]
      grind
theorem S_ge_one {n : Nat} {f : Nat → Rat} {k : Nat} (hk : k < n) (h : ∀ i, i < n → 0 ≤ f i) : f k ≤ S n f := by
  induction n with
  | zero => omega
  | succ n ih =>
    show f k ≤ S n f + f n
    by_cases e : k = n
    · subst e
      have : 0 ≤ S k f := S_nonneg fun i hi => h i (by omega)
      grind
    · have h1 := ih (by omega) fun i hi => h i (by omega)
      have h2 := h n (by omega)
      grind
/-- two terms of a sum whose others are at most 0 -/
theorem S_le_two {n : Nat} {f : Nat → Rat} {k l : Nat} (hk : k < n) (hl : l < n) (hkl : k ≠ l) (h : ∀ i, i < n → i ≠ k → f i ≤ 0) : S n f ≤ f k + f l := by
  induction n with
  | zero => omega
  | succ n ih =>
    show S n f + f n ≤ f k + f l
    by_cases e : l = n
    · subst e
      have := S_le_one (f := f) (n := l) (k := k) (by omega) fun i hi hn => h i (by omega) hn
      grind
    · by_cases e2 : k = n
      · subst e2
        have : S k f ≤ f l := S_le_one (by omega) fun i hi _ => h i (by omega) (by omega)
        grind
      · have h1 := ih (by omega) (by omega) fun i hi hn => h i (by omega) hn
        have h2 := h n (by omega) (by omega)
        grind

abbrev Mat := Nat → Nat → Rat
/-- one step of the elimination, every row up to a positive factor -/
structure StepR (n k : Nat) (A B : Mat) : Prop where
  own : ∃ g : Rat, 0 < g ∧ ∀ j, j ≤ n → g * B k j = A k j
  oth : ∀ i, i < n → i ≠ k → ∃ g : Rat, 0 < g ∧ ∀ j, j ≤ n → g * B i j = A i j * A k k - A i k * A k j
/-- the invariant -/
structure MM (n : Nat) (v : Nat → Rat) (A : Mat) : Prop where
  off : ∀ i j, i < n → j < n → i ≠ j → A i j ≤ 0
  vp : ∀ i, i < n → 0 < v i
  av : ∀ i, i < n → 0 < S n fun j => A i j * v j
  rhs : ∀ i, i < n → 0 ≤ A i n

theorem mul_np {a b : Rat} (ha : a ≤ 0) (hb : 0 ≤ b) : a * b ≤ 0 := by
  have := Rat.mul_le_mul_of_nonneg_right ha hb
  rw [Rat.zero_mul] at this
  exact this
theorem mul_nn {a b : Rat} (ha : a ≤ 0) (hb : b ≤ 0) : 0 ≤ a * b := by
  have h : 0 ≤ (-a) * (-b) := Rat.mul_nonneg (by grind) (by grind)
  have e : (-a) * (-b) = a * b := by grind
  rw [e] at h
  exact h
theorem pos_of_mul {a b : Rat} (h : 0 < a * b) (hb : 0 < b) : 0 < a := by
  by_cases c : a ≤ 0
  · have := mul_np c (by grind : 0 ≤ b)
    grind
  · grind
theorem nn_of_mul {g b : Rat} (hg : 0 < g) (h : 0 ≤ g * b) : 0 ≤ b := by
  by_cases c : 0 ≤ b
  · exact c
  · have : 0 < g * (-b) := Rat.mul_pos hg (by grind)
    grind
theorem np_of_mul {g b : Rat} (hg : 0 < g) (h : g * b ≤ 0) : b ≤ 0 := by
  by_cases c : b ≤ 0
  · exact c
  · have : 0 < g * b := Rat.mul_pos hg (by grind)
    grind
theorem ps_of_mul {g b : Rat} (hg : 0 < g) (h : 0 < g * b) : 0 < b := by
  by_cases c : b ≤ 0
  · have : 0 ≤ g * (-b) := Rat.mul_nonneg (by grind) (by grind)
    grind
  · grind
theorem z_of_mul {g b : Rat} (hg : 0 < g) (h : g * b = 0) : b = 0 := by
  have h1 : 0 ≤ b := nn_of_mul hg (by grind)
  have h2 : b ≤ 0 := np_of_mul hg (by grind)
  grind

section
variable {n k : Nat} {v : Nat → Rat} {A B : Mat}
theorem MM.diag (h : MM n v A) {i : Nat} (hi : i < n) : 0 < A i i := by
  have h1 := S_le_one (f := fun j => A i j * v j) hi fun j hj hn => mul_np (h.off i j hi hj (Ne.symm hn)) (by have := h.vp j hj; grind)
  have h2 := h.av i hi
  have h3 : 0 < A i i * v i := by grind
  exact pos_of_mul h3 (h.vp i hi)
/-- what a step does to a combination of a row's numbers -/
theorem StepR.lin (s : StepR n k A B) (y : Nat → Rat) (z : Rat) {i : Nat} (hi : i < n) (hn : i ≠ k) : ∃ g : Rat, 0 < g ∧ (∀ j, j ≤ n → g * B i j = A i j * A k k - A i k * A k j) ∧
    g * (S n (fun j => B i j * y j) + B i n * z) = A k k * (S n (fun j => A i j * y j) + A i n * z) - A i k * (S n (fun j => A k j * y j) + A k n * z) := by
  obtain ⟨g, hg, e⟩ := s.oth i hi hn
  refine ⟨g, hg, e, ?_⟩
  have e1 : g * S n (fun j => B i j * y j) = A k k * S n (fun j => A i j * y j) + (-A i k) * S n (fun j => A k j * y j) := by
    rw [← S_mul, ← S_mul, ← S_mul, ← S_add]
    refine S_congr fun j hj => ?_
    have := e j (by omega)
    show g * (B i j * y j) = A k k * (A i j * y j) + (-A i k) * (A k j * y j)
    have e2 : g * (B i j * y j) = (g * B i j) * y j := by grind
    rw [e2, this]
    grind
  have e3 := e n (Nat.le_refl n)
  have e4 : g * (B i n * z) = (g * B i n) * z := by grind
  rw [Rat.mul_add, e1, e4, e3]
  grind
theorem StepR.linK (s : StepR n k A B) (y : Nat → Rat) (z : Rat) : ∃ g : Rat, 0 < g ∧ (∀ j, j ≤ n → g * B k j = A k j) ∧ g * (S n (fun j => B k j * y j) + B k n * z) = S n (fun j => A k j * y j) + A k n * z := by
  obtain ⟨g, hg, e⟩ := s.own
  refine ⟨g, hg, e, ?_⟩
  have e1 : g * S n (fun j => B k j * y j) = S n (fun j => A k j * y j) := by
    rw [← S_mul]
    refine S_congr fun j hj => ?_
    have := e j (by omega)
    show g * (B k j * y j) = A k j * y j
    rw [← this]
    grind
  have e3 := e n (Nat.le_refl n)
  have e4 : g * (B k n * z) = (g * B k n) * z := by grind
  rw [Rat.mul_add, e1, e4, e3]
theorem MM.step (h : MM n v A) (s : StepR n k A B) (hk : k < n) : MM n v B where
  vp := h.vp
  off := fun i j hi hj hn => by
    by_cases e : i = k
    · subst e
      obtain ⟨g, hg, q⟩ := s.own
      exact np_of_mul hg (by rw [q j (by omega)]; exact h.off i j hi hj hn)
    · obtain ⟨g, hg, q⟩ := s.oth i hi e
      refine np_of_mul hg ?_
      rw [q j (by omega)]
      by_cases e2 : j = k
      · subst e2
        grind
      · have h1 := mul_np (h.off i j hi hj hn) (by have := h.diag hk; grind : 0 ≤ A k k)
        have h2 := mul_nn (h.off i k hi hk e) (h.off k j hk hj (Ne.symm e2))
        grind
  av := fun i hi => by
    by_cases e : i = k
    · subst e
      obtain ⟨g, hg, _, q⟩ := s.linK v 0
      rw [Rat.mul_zero, Rat.mul_zero, Rat.add_zero, Rat.add_zero] at q
      exact ps_of_mul hg (by rw [q]; exact h.av i hi)
    · obtain ⟨g, hg, _, q⟩ := s.lin v 0 hi e
      rw [Rat.mul_zero, Rat.mul_zero, Rat.mul_zero, Rat.add_zero, Rat.add_zero, Rat.add_zero] at q
      refine ps_of_mul hg ?_
      rw [q]
      have h1 := Rat.mul_pos (h.diag hk) (h.av i hi)
      have h2 := mul_np (h.off i k hi hk e) (by have := h.av k hk; grind : 0 ≤ S n fun j => A k j * v j)
      grind
  rhs := fun i hi => by
    by_cases e : i = k
    · subst e
      obtain ⟨g, hg, q⟩ := s.own
      exact nn_of_mul hg (by rw [q n (Nat.le_refl n)]; exact h.rhs i hi)
    · obtain ⟨g, hg, q⟩ := s.oth i hi e
      refine nn_of_mul hg ?_
      rw [q n (Nat.le_refl n)]
      have h1 := Rat.mul_nonneg (h.rhs i hi) (by have := h.diag hk; grind : 0 ≤ A k k)
      have h2 := mul_np (h.off i k hi hk e) (h.rhs k hk)
      grind
/-- a combination that is 0 or more on every row stays so -/
theorem MM.lf (h : MM n v A) (s : StepR n k A B) (hk : k < n) {y : Nat → Rat} {z : Rat} (l : ∀ i, i < n → 0 ≤ S n (fun j => A i j * y j) + A i n * z) {i : Nat} (hi : i < n) : 0 ≤ S n (fun j => B i j * y j) + B i n * z := by
  by_cases e : i = k
  · subst e
    obtain ⟨g, hg, _, q⟩ := s.linK y z
    exact nn_of_mul hg (by rw [q]; exact l i hi)
  · obtain ⟨g, hg, _, q⟩ := s.lin y z hi e
    refine nn_of_mul hg ?_
    rw [q]
    have h1 := Rat.mul_nonneg (by have := h.diag hk; grind : 0 ≤ A k k) (l i hi)
    have h2 := mul_np (h.off i k hi hk e) (l k hk)
    grind
def Sol (n : Nat) (x : Nat → Rat) (A : Mat) : Prop := ∀ i, i < n → S n (fun j => A i j * x j) = A i n
theorem MM.sol (h : MM n v A) (s : StepR n k A B) (hk : k < n) {x : Nat → Rat} : Sol n x B ↔ Sol n x A := by
  have z : ∀ {a b : Rat}, a + b * (-1) = 0 ↔ a = b := by
    intro a b
    constructor <;> intro q <;> grind
  have main : ∀ M : Mat, Sol n x M ↔ ∀ i, i < n → S n (fun j => M i j * x j) + M i n * (-1) = 0 := fun M => ⟨fun q i hi => z.mpr (q i hi), fun q i hi => z.mp (q i hi)⟩
  rw [main, main]
  have hK : S n (fun j => B k j * x j) + B k n * (-1) = 0 ↔ S n (fun j => A k j * x j) + A k n * (-1) = 0 := by
    obtain ⟨g, hg, _, q⟩ := s.linK x (-1)
    constructor
    · intro w
      rw [← q, w]
      grind
    · intro w
      rw [w] at q
      exact z_of_mul hg q
  constructor
  · intro q i hi
    by_cases e : i = k
    · subst e
      exact hK.mp (q i hi)
    · obtain ⟨g, hg, _, r⟩ := s.lin x (-1) hi e
      rw [q i hi, hK.mp (q k hk)] at r
      exact z_of_mul (h.diag hk) (by grind)
  · intro q i hi
    by_cases e : i = k
    · subst e
      exact hK.mpr (q i hi)
    · obtain ⟨g, hg, _, r⟩ := s.lin x (-1) hi e
      rw [q i hi, q k hk] at r
      exact z_of_mul hg (by rw [r]; grind)
/-- the columns that are done -/
def Done (n m : Nat) (A : Mat) : Prop := ∀ i c, i < n → c < m → i ≠ c → A i c = 0
theorem Done.step (d : Done n k A) (s : StepR n k A B) (hk : k < n) : Done n (k + 1) B := fun i c hi hc hn => by
  by_cases e : i = k
  · subst e
    obtain ⟨g, hg, q⟩ := s.own
    exact z_of_mul hg (by rw [q c (by omega)]; exact d i c hi (by omega) hn)
  · obtain ⟨g, hg, q⟩ := s.oth i hi e
    refine z_of_mul hg ?_
    rw [q c (by omega)]
    by_cases e2 : c = k
    · subst e2
      grind
    · rw [d i c hi (by omega) hn, d k c hk (by omega) (Ne.symm e2)]
      grind
theorem Sol.done (h : MM n v A) (d : Done n n A) : Sol n (fun i => A i n / A i i) A := fun i hi => by
  rw [S_one hi fun j hj hn => by rw [d i j hi hj (Ne.symm hn), Rat.zero_mul]]
  have := h.diag hi
  show A i i * (A i n / A i i) = A i n
  grind
theorem Sol.of_done {x : Nat → Rat} (h : MM n v A) (d : Done n n A) (q : Sol n x A) {i : Nat} (hi : i < n) : x i = A i n / A i i := by
  have e := q i hi
  rw [S_one hi fun j hj hn => by rw [d i j hi hj (Ne.symm hn), Rat.zero_mul]] at e
  have := h.diag hi
  rw [← e]
  grind
end
end CN
/-! The program's elimination, on lists of Int. -/
namespace CN

def ent (rows : List (List Int)) (i j : Nat) : Int := (rows.getD i []).getD j 0
def gcdRow (row : List Int) : Int := row.foldl (fun g x => ((Int.gcd g x : Nat) : Int)) 0
def lessened (row : List Int) : List Int := row.map fun x => x / gcdRow row
def without (row pivot : List Int) (k : Nat) : List Int := List.zipWith (fun a b => a * pivot.getD k 0 - b * row.getD k 0) row pivot
def clearRow (rows : List (List Int)) (k i : Nat) : List Int := if i = k ∨ ent rows i k = 0 then rows.getD i [] else lessened (without (rows.getD i []) (rows.getD k []) k)
def cleared (rows : List (List Int)) (k : Nat) : List (List Int) := (List.range rows.length).map (clearRow rows k)
def stepped (rows : List (List Int)) : Nat → List (List Int)
  | 0 => rows
  | m + 1 => cleared (stepped rows m) m
def Shape (n : Nat) (rows : List (List Int)) : Prop := rows.length = n ∧ ∀ r ∈ rows, r.length = n + 1
def matR (rows : List (List Int)) : Mat := fun i j => (ent rows i j : Rat)

/-! ### gcd of a row -/
theorem gcdRow_acc_dvd (row : List Int) : ∀ g : Int, row.foldl (fun g x => ((Int.gcd g x : Nat) : Int)) g ∣ g ∧ ∀ x ∈ row, row.foldl (fun g x => ((Int.gcd g x : Nat) : Int)) g ∣ x := by
  induction row with
  | nil => intro g; exact ⟨Int.dvd_refl _, fun x hx => nomatch hx⟩
  | cons a row ih =>
    intro g
    obtain ⟨h1, h2⟩ := ih ((Int.gcd g a : Nat) : Int)
    refine ⟨Int.dvd_trans h1 (Int.gcd_dvd_left ..), fun x hx => ?_⟩
    rcases List.mem_cons.mp hx with e | hx
    · subst e
      exact Int.dvd_trans h1 (Int.gcd_dvd_right ..)
    · exact h2 x hx
theorem gcdRow_dvd {row : List Int} {x : Int} (hx : x ∈ row) : gcdRow row ∣ x := (gcdRow_acc_dvd row 0).2 x hx
theorem gcdRow_acc_nn (row : List Int) : ∀ g : Int, 0 ≤ g → 0 ≤ row.foldl (fun g x => ((Int.gcd g x : Nat) : Int)) g := by
  induction row with
  | nil => intro g h; exact h
  | cons a row ih => intro g _; exact ih _ (Int.natCast_nonneg _)
theorem gcdRow_nn (row : List Int) : 0 ≤ gcdRow row := gcdRow_acc_nn row 0 (Int.le_refl _)
theorem gcdRow_pos {row : List Int} {x : Int} (hx : x ∈ row) (h : x ≠ 0) : 0 < gcdRow row := by
  have h1 := gcdRow_nn row
  have h2 := gcdRow_dvd hx
  by_cases e : gcdRow row = 0
  · rw [e] at h2
    exact absurd (Int.zero_dvd.mp h2) h
  · omega
theorem gcdRow_acc_mul {W N : Int} (row : List Int) : ∀ g : Int, W ∣ N * g → (∀ x ∈ row, W ∣ N * x) → W ∣ N * row.foldl (fun g x => ((Int.gcd g x : Nat) : Int)) g := by
  induction row with
  | nil => intro g h _; exact h
  | cons a row ih =>
    intro g h hx
    refine ih _ ?_ fun x h' => hx x (List.mem_cons_of_mem _ h')
    have h1 : W ∣ ((Int.gcd (N * g) (N * a) : Nat) : Int) := Int.dvd_coe_gcd h (hx a (List.mem_cons_self ..))
    rw [Int.gcd_mul_left] at h1
    have h2 : ((N.natAbs * Int.gcd g a : Nat) : Int) = (N.natAbs : Int) * (Int.gcd g a : Int) := Int.natCast_mul ..
    rw [h2] at h1
    rcases Int.natAbs_eq N with e | e
    · rw [← e] at h1
      exact h1
    · have e2 : (N.natAbs : Int) = -N := by omega
      rw [e2, Int.neg_mul] at h1
      exact (Int.dvd_neg).mp h1
theorem gcdRow_mul {W N : Int} {row : List Int} (h : ∀ x ∈ row, W ∣ N * x) : W ∣ N * gcdRow row := gcdRow_acc_mul row 0 (by rw [Int.mul_zero]; exact Int.dvd_zero _) h

/-! ### entries -/
theorem getD_mem {α : Type} {l : List α} {i : Nat} {d : α} (h : i < l.length) : l.getD i d ∈ l := by
  rw [List.getD_eq_getElem?_getD, List.getElem?_eq_getElem h]
  exact List.getElem_mem h
section
variable {n : Nat} {rows : List (List Int)}
theorem Shape.row (s : Shape n rows) {i : Nat} (hi : i < n) : (rows.getD i []).length = n + 1 := s.2 _ (getD_mem (by rw [s.1]; exact hi))
theorem without_len {row pivot : List Int} {k m : Nat} (h1 : row.length = m) (h2 : pivot.length = m) : (without row pivot k).length = m := by
  unfold without
  rw [List.length_zipWith, h1, h2, Nat.min_self]
theorem without_get {row pivot : List Int} {k j m : Nat} (h1 : row.length = m) (h2 : pivot.length = m) (hj : j < m) : (without row pivot k).getD j 0 = row.getD j 0 * pivot.getD k 0 - pivot.getD j 0 * row.getD k 0 := by
  unfold without
  have e1 : row[j]? = some (row.getD j 0) := by rw [List.getD_eq_getElem?_getD, List.getElem?_eq_getElem (by omega)] <;> rfl
  have e2 : pivot[j]? = some (pivot.getD j 0) := by rw [List.getD_eq_getElem?_getD, List.getElem?_eq_getElem (by omega)] <;> rfl
  rw [List.getD_eq_getElem?_getD, List.getElem?_zipWith, e1, e2]
  rfl
theorem lessened_get {row : List Int} {j : Nat} (hj : j < row.length) : (lessened row).getD j 0 = row.getD j 0 / gcdRow row := by
  unfold lessened
  rw [List.getD_eq_getElem?_getD, List.getElem?_map, List.getD_eq_getElem?_getD, List.getElem?_eq_getElem hj]
  rfl
theorem lessened_mul {row : List Int} {j : Nat} (hj : j < row.length) : gcdRow row * (lessened row).getD j 0 = row.getD j 0 := by
  rw [lessened_get hj]
  exact Int.mul_ediv_cancel' (gcdRow_dvd (getD_mem hj))
theorem clearRow_len (s : Shape n rows) {i k : Nat} (hi : i < n) (hk : k < n) : (clearRow rows k i).length = n + 1 := by
  unfold clearRow
  split
  · exact s.row hi
  · unfold lessened
    rw [List.length_map, without_len (s.row hi) (s.row hk)]
theorem cleared_get (s : Shape n rows) {i k : Nat} (hi : i < n) : (cleared rows k).getD i [] = clearRow rows k i := by
  unfold cleared
  rw [List.getD_eq_getElem?_getD, List.getElem?_map, List.getElem?_range (by rw [s.1]; exact hi)]
  rfl
theorem Shape.cleared (s : Shape n rows) {k : Nat} (hk : k < n) : Shape n (cleared rows k) := by
  refine ⟨by unfold CN.cleared; rw [List.length_map, List.length_range, s.1], fun r hr => ?_⟩
  unfold CN.cleared at hr
  obtain ⟨i, hi, rfl⟩ := List.mem_map.mp hr
  exact clearRow_len s (by have := List.mem_range.mp hi; rw [s.1] at this; exact this) hk
theorem Shape.stepped (s : Shape n rows) : ∀ {m : Nat}, m ≤ n → Shape n (stepped rows m)
  | 0, _ => s
  | m + 1, h => (Shape.stepped s (m := m) (by omega)).cleared (by omega)

/-- the row that the step makes ahead of its division -/
def wRow (rows : List (List Int)) (k i : Nat) : List Int := without (rows.getD i []) (rows.getD k []) k
theorem wRow_get (s : Shape n rows) {i j k : Nat} (hi : i < n) (hk : k < n) (hj : j ≤ n) : (wRow rows k i).getD j 0 = ent rows i j * ent rows k k - ent rows k j * ent rows i k :=
  without_get (s.row hi) (s.row hk) (by omega)
theorem wRow_len (s : Shape n rows) {i k : Nat} (hi : i < n) (hk : k < n) : (wRow rows k i).length = n + 1 := without_len (s.row hi) (s.row hk)
/-- the step without the division, over Rat -/
def raw (k : Nat) (A : Mat) : Mat := fun i j => if i = k then A k j else A i j * A k k - A i k * A k j
theorem raw_step {k : Nat} {A : Mat} : StepR n k A (raw k A) where
  own := ⟨1, by decide, fun j _ => by unfold raw; rw [if_pos rfl]; grind⟩
  oth := fun i _ hn => ⟨1, by decide, fun j _ => by unfold raw; rw [if_neg hn]; grind⟩
theorem wRow_raw (s : Shape n rows) {i j k : Nat} (hi : i < n) (hk : k < n) (hj : j ≤ n) (hn : i ≠ k) : (((wRow rows k i).getD j 0 : Int) : Rat) = raw k (matR rows) i j := by
  rw [wRow_get s hi hk hj]
  unfold raw matR
  rw [if_neg hn, Rat.intCast_sub, Rat.intCast_mul, Rat.intCast_mul]
  grind
variable {v : Nat → Rat} {k : Nat}
theorem wRow_pos (s : Shape n rows) (h : MM n v (matR rows)) (hk : k < n) {i : Nat} (hi : i < n) (hn : i ≠ k) : 0 < (wRow rows k i).getD i 0 := by
  have h1 := (h.step (raw_step (n := n) (k := k)) hk).diag hi
  rw [← wRow_raw s hi hk (by omega) hn] at h1
  exact Rat.intCast_pos.mp h1
theorem wGcd_pos (s : Shape n rows) (h : MM n v (matR rows)) (hk : k < n) {i : Nat} (hi : i < n) (hn : i ≠ k) : 0 < gcdRow (wRow rows k i) := by
  have h1 := wRow_pos s h hk hi hn
  exact gcdRow_pos (getD_mem (d := 0) (i := i) (by rw [wRow_len s hi hk]; omega)) (by omega)
theorem ent_cleared (s : Shape n rows) {i : Nat} (hi : i < n) (j : Nat) : ent (cleared rows k) i j = (clearRow rows k i).getD j 0 := by
  unfold ent
  rw [cleared_get s hi]
/-- what the step does to a row -/
theorem clear_cases (s : Shape n rows) (h : MM n v (matR rows)) (hk : k < n) {i : Nat} (hi : i < n) :
    ((i = k ∨ ent rows i k = 0) ∧ ∀ j, ent (cleared rows k) i j = ent rows i j) ∨
    (i ≠ k ∧ ent rows i k ≠ 0 ∧ ∃ g : Int, 0 < g ∧ g = gcdRow (wRow rows k i) ∧ ∀ j, j ≤ n → g * ent (cleared rows k) i j = ent rows i j * ent rows k k - ent rows k j * ent rows i k) := by
  by_cases c : i = k ∨ ent rows i k = 0
  · refine .inl ⟨c, fun j => ?_⟩
    rw [ent_cleared s hi]
    unfold clearRow
    rw [if_pos c]
    rfl
  · refine .inr ⟨fun e => c (.inl e), fun e => c (.inr e), _, wGcd_pos s h hk hi (fun e => c (.inl e)), rfl, fun j hj => ?_⟩
    rw [ent_cleared s hi]
    unfold clearRow
    rw [if_neg c]
    have e := lessened_mul (row := wRow rows k i) (j := j) (by rw [wRow_len s hi hk]; omega)
    rw [wRow_get s hi hk hj] at e
    exact e
theorem clear_step (s : Shape n rows) (h : MM n v (matR rows)) (hk : k < n) : StepR n k (matR rows) (matR (cleared rows k)) where
  own := by
    refine ⟨1, by decide, fun j hj => ?_⟩
    rcases clear_cases s h hk hk with ⟨_, e⟩ | ⟨e, _⟩
    · unfold matR
      rw [e]
      grind
    · exact absurd rfl e
  oth := fun i hi hn => by
    rcases clear_cases s h hk hi with ⟨c, e⟩ | ⟨_, _, g, hg, _, e⟩
    · have z : ent rows i k = 0 := by
        rcases c with c | c
        · exact absurd c hn
        · exact c
      refine ⟨matR rows k k, h.diag hk, fun j hj => ?_⟩
      unfold matR
      rw [e, z, Rat.intCast_zero]
      grind
    · refine ⟨(g : Rat), Rat.intCast_pos.mpr hg, fun j hj => ?_⟩
      unfold matR
      rw [← Rat.intCast_mul, e j hj, Rat.intCast_sub, Rat.intCast_mul, Rat.intCast_mul]
      grind
theorem stepped_MM (s : Shape n rows) (h : MM n v (matR rows)) : ∀ {m : Nat}, m ≤ n → MM n v (matR (stepped rows m))
  | 0, _ => h
  | m + 1, hm => (stepped_MM s h (m := m) (by omega)).step (clear_step (s.stepped (by omega)) (stepped_MM s h (m := m) (by omega)) (by omega)) (by omega)
theorem stepped_done (s : Shape n rows) (h : MM n v (matR rows)) : ∀ {m : Nat}, m ≤ n → Done n m (matR (stepped rows m))
  | 0, _ => fun _ _ _ hc _ => absurd hc (Nat.not_lt_zero _)
  | m + 1, hm => (stepped_done s h (m := m) (by omega)).step (clear_step (s.stepped (by omega)) (stepped_MM s h (by omega)) (by omega)) (by omega)
theorem stepped_sol (s : Shape n rows) (h : MM n v (matR rows)) {x : Nat → Rat} : ∀ {m : Nat}, m ≤ n → (Sol n x (matR (stepped rows m)) ↔ Sol n x (matR rows))
  | 0, _ => Iff.rfl
  | m + 1, hm => ((stepped_MM s h (m := m) (by omega)).sol (clear_step (s.stepped (by omega)) (stepped_MM s h (by omega)) (by omega)) (by omega)).trans (stepped_sol s h (m := m) (by omega))
theorem stepped_lf (s : Shape n rows) (h : MM n v (matR rows)) {y : Nat → Rat} {z : Rat} (l : ∀ i, i < n → 0 ≤ S n (fun j => matR rows i j * y j) + matR rows i n * z) :
    ∀ {m : Nat}, m ≤ n → ∀ i, i < n → 0 ≤ S n (fun j => matR (stepped rows m) i j * y j) + matR (stepped rows m) i n * z
  | 0, _ => l
  | m + 1, hm => fun i hi => (stepped_MM s h (m := m) (by omega)).lf (clear_step (s.stepped (by omega)) (stepped_MM s h (by omega)) (by omega)) (by omega) (stepped_lf s h l (m := m) (by omega)) hi
end
end CN
set_option exponentiation.threshold 20000
/-! The sizes in the program's elimination. -/
namespace CN

def Sm (x : Int) : Prop := x.natAbs < 2 ^ 13500
theorem Sm.of {x y : Int} (h : y < 2 ^ 13500) (h1 : x ≤ y) (h2 : -y ≤ x) : Sm x := by
  unfold Sm
  have e : ((2 ^ 13500 : Nat) : Int) = (2 : Int) ^ 13500 := by rw [Int.natCast_pow]; rfl
  generalize (2 : Int) ^ 13500 = Z at *
  generalize (2 : Nat) ^ 13500 = Y at *
  omega
structure ClearOk (n : Nat) (R : List (List Int)) (k : Nat) : Prop where
  shape : Shape n R
  lt : k < n
  small : ∀ i j, i < n → j ≤ n → Sm (ent R i j)
  gpos : ∀ i, i < n → i ≠ k → ent R i k ≠ 0 → 0 < gcdRow (wRow R k i)
  wsmall : ∀ i j, i < n → i ≠ k → ent R i k ≠ 0 → j ≤ n → Sm ((wRow R k i).getD j 0)
structure SolveOk (n : Nat) (rows : List (List Int)) : Prop where
  step : ∀ k, k < n → ClearOk n (stepped rows k) k
  shape : Shape n (stepped rows n)
  diag : ∀ i, i < n → 0 < ent (stepped rows n) i i
  rhs : ∀ i, i < n → 0 ≤ ent (stepped rows n) i n
  small : ∀ i j, i < n → j ≤ n → Sm (ent (stepped rows n) i j)
def solvedR (n : Nat) (rows : List (List Int)) : List Rat := (List.range n).map fun i => mkRat (ent (stepped rows n) i n) (ent (stepped rows n) i i).toNat

theorem le_of_mul_le {a b c : Rat} (hc : 0 < c) (h : a * c ≤ b * c) : a ≤ b := by
  have h1 : 0 ≤ c * (b - a) := by grind
  have h2 := nn_of_mul hc h1
  grind
section
variable {n : Nat} {v : Nat → Rat} {A : Mat}
theorem MM.off_le (h : MM n v A) (l : ∀ i, i < n → 0 ≤ S n (fun j => A i j * 1) + A i n * 0) {i j : Nat} (hi : i < n) (hj : j < n) (hn : i ≠ j) : -A i i ≤ A i j := by
  have h1 := l i hi
  have h2 := S_le_two (f := fun j => A i j * 1) (k := i) (l := j) hi hj hn fun m hm hne => by
    have := h.off i m hi hm (Ne.symm hne)
    grind
  grind
theorem MM.rhs_le (h : MM n v A) {G : Rat} (hG : 0 ≤ G) (l : ∀ i, i < n → 0 ≤ S n (fun j => A i j * (G * v j)) + A i n * (-1)) {i : Nat} (hi : i < n) : A i n ≤ A i i * (G * v i) := by
  have h1 := l i hi
  have h2 := S_le_one (f := fun j => A i j * (G * v j)) hi fun m hm hne => mul_np (h.off i m hi hm (Ne.symm hne)) (Rat.mul_nonneg hG (by have := h.vp m hm; grind))
  grind
/-- all of a row are as its own place's number allows -/
theorem row_small {rw' : Nat → Int} (h : MM n v A) {G : Rat} (hG : 0 ≤ G) (l1 : ∀ i, i < n → 0 ≤ S n (fun j => A i j * 1) + A i n * 0) (l2 : ∀ i, i < n → 0 ≤ S n (fun j => A i j * (G * v j)) + A i n * (-1))
    {V X : Int} (hV : 1 ≤ V) {i : Nat} (hi : i < n) (hv : G * v i ≤ (V : Rat)) (he : ∀ j, j ≤ n → (rw' j : Rat) = A i j) (hX : rw' i ≤ X) (hVX : V * X < 2 ^ 13500) {j : Nat} (hj : j ≤ n) : Sm (rw' j) := by
  have d0 := h.diag hi
  rw [← he i (by omega)] at d0
  have d : 0 < rw' i := Rat.intCast_pos.mp d0
  have X0 : 0 < X := by omega
  have XV : X ≤ V * X := by
    have : 1 * X ≤ V * X := Int.mul_le_mul_of_nonneg_right hV (by omega)
    omega
  refine Sm.of hVX ?_ ?_
  · by_cases e : j = n
    · have q := h.rhs_le hG l2 hi
      rw [e]
      have q2 : A i i * (G * v i) ≤ A i i * (V : Rat) := Rat.mul_le_mul_of_nonneg_left hv (by have := h.diag hi; grind)
      rw [← he n (Nat.le_refl n), ← he i (by omega)] at *
      have q3 : ((rw' n : Int) : Rat) ≤ ((rw' i * V : Int) : Rat) := by
        rw [Rat.intCast_mul]
        grind
      have q4 := Rat.intCast_le_intCast.mp q3
      have q5 : V * rw' i ≤ V * X := Int.mul_le_mul_of_nonneg_left hX (by omega)
      rw [Int.mul_comm] at q4
      omega
    · by_cases e2 : j = i
      · subst e2
        omega
      · have q := h.off i j hi (by omega) (Ne.symm e2)
        rw [← he j hj] at q
        have : ((rw' j : Int) : Rat) ≤ ((0 : Int) : Rat) := q
        have := Rat.intCast_le_intCast.mp this
        omega
  · by_cases e : j = n
    · have q := h.rhs i hi
      rw [← he n (Nat.le_refl n)] at q
      have := Rat.intCast_nonneg.mp q
      rw [e]
      omega
    · by_cases e2 : j = i
      · subst e2
        omega
      · have q := h.off_le l1 hi (by omega) (Ne.symm e2)
        rw [← he j hj, ← he i (by omega), ← Rat.intCast_neg] at q
        have := Rat.intCast_le_intCast.mp q
        omega
end
section
variable {n : Nat} {rows : List (List Int)} {v : Nat → Rat}
theorem wRow_diag_le (s : Shape n rows) (h : MM n v (matR rows)) {i k : Nat} (hi : i < n) (hk : k < n) (hn : i ≠ k) : (wRow rows k i).getD i 0 ≤ ent rows i i * ent rows k k := by
  rw [wRow_get s hi hk (by omega)]
  have h1 := h.off i k hi hk hn
  have h2 := h.off k i hk hi (Ne.symm hn)
  have h3 : ent rows i k ≤ 0 := Rat.intCast_le_intCast.mp h1
  have h4 : ent rows k i ≤ 0 := Rat.intCast_le_intCast.mp h2
  have h5 : 0 ≤ ent rows k i * ent rows i k := Int.mul_nonneg_of_nonpos_of_nonpos h4 h3
  omega
theorem diag_pos (h : MM n v (matR rows)) {i : Nat} (hi : i < n) : 0 < ent rows i i := Rat.intCast_pos.mp (h.diag hi)
theorem solve_ok (s : Shape n rows) (h : MM n v (matR rows)) {G : Rat} (hG : 0 ≤ G) (l1 : ∀ i, i < n → 0 ≤ S n (fun j => matR rows i j * 1) + matR rows i n * 0)
    (l2 : ∀ i, i < n → 0 ≤ S n (fun j => matR rows i j * (G * v j)) + matR rows i n * (-1)) {V X : Int} (hV : 1 ≤ V) (hv : ∀ i, i < n → G * v i ≤ (V : Rat)) (hVX : V * X < 2 ^ 13500)
    (b1 : ∀ m i, m < n → i < n → i ≠ m → ent (stepped rows m) i m ≠ 0 → ent (stepped rows m) i i * ent (stepped rows m) m m ≤ X) (b2 : ∀ m i, m ≤ n → i < n → ent (stepped rows m) i i ≤ X) : SolveOk n rows := by
  have sm : ∀ m, m ≤ n → ∀ i j, i < n → j ≤ n → Sm (ent (stepped rows m) i j) := fun m hm i j hi hj =>
    row_small (rw' := fun j => ent (stepped rows m) i j) (stepped_MM s h hm) hG (stepped_lf s h l1 hm) (stepped_lf s h l2 hm) hV hi (hv i hi) (fun _ _ => rfl) (b2 m i hm hi) hVX hj
  refine ⟨fun k hk => ?_, s.stepped (Nat.le_refl n), fun i hi => diag_pos (stepped_MM s h (Nat.le_refl n)) hi, fun i hi => ?_, sm n (Nat.le_refl n)⟩
  · have sk := s.stepped (m := k) (by omega)
    have hm := stepped_MM s h (m := k) (by omega)
    refine ⟨sk, hk, sm k (by omega), fun i hi hn _ => wGcd_pos sk hm hk hi hn, fun i j hi hn h0 hj => ?_⟩
    refine row_small (n := n) (v := v) (A := raw k (matR (stepped rows k))) (rw' := fun j => (wRow (stepped rows k) k i).getD j 0) (hm.step raw_step hk) hG (fun i hi => hm.lf raw_step hk (stepped_lf s h l1 (by omega)) hi)
      (fun i hi => hm.lf raw_step hk (stepped_lf s h l2 (by omega)) hi) hV hi (hv i hi) (fun j hj => wRow_raw sk hi hk hj hn) ?_ hVX hj
    exact Int.le_trans (wRow_diag_le sk hm hi hk hn) (b1 k i hk hi hn h0)
  · have := (stepped_MM s h (Nat.le_refl n)).rhs i hi
    exact Rat.intCast_nonneg.mp this
/-- what is solved is the solution -/
theorem solvedR_eq (s : Shape n rows) (h : MM n v (matR rows)) {x : Nat → Rat} (q : Sol n x (matR rows)) : solvedR n rows = (List.range n).map x := by
  unfold solvedR
  refine List.map_congr_left fun i hi => ?_
  have hi := List.mem_range.mp hi
  have hm := stepped_MM s h (Nat.le_refl n)
  have e := Sol.of_done hm (stepped_done s h (Nat.le_refl n)) ((stepped_sol s h (Nat.le_refl n)).mpr q) hi
  rw [e, Rat.mkRat_eq_div]
  have d := diag_pos hm hi
  show (ent (stepped rows n) i n : Rat) / _ = (ent (stepped rows n) i n : Rat) / (ent (stepped rows n) i i : Rat)
  congr 1
  rw [← Rat.intCast_natCast]
  congr 1
  omega
/-- there is one -/
theorem sol_exists (s : Shape n rows) (h : MM n v (matR rows)) : ∃ x, Sol n x (matR rows) := ⟨_, (stepped_sol s h (Nat.le_refl n)).mp (Sol.done (stepped_MM s h (Nat.le_refl n)) (stepped_done s h (Nat.le_refl n)))⟩
end

/-! ### memory 2: a column's other numbers are multiples of its own -/
section
variable {n : Nat} {rows : List (List Int)} {v : Nat → Rat}
/-- a multiple of the row, whose own number is W i -/
def Mult (n : Nat) (W : Nat → Int) (R : List (List Int)) (i : Nat) : Prop := ∃ c : Int, 0 < c ∧ c * ent R i i = W i ∧ ∀ j, j < n → W j ∣ c * ent R i j
theorem mult_step (s : Shape n rows) (h : MM n v (matR rows)) {W : Nat → Int} (hW : ∀ i, i < n → 0 < W i) {k : Nat} (hk : k < n) (hm : ∀ i, i < n → Mult n W rows i) {i : Nat} (hi : i < n) : Mult n W (cleared rows k) i := by
  rcases clear_cases s h hk hi with ⟨_, e⟩ | ⟨hn, h0, g, hg, eg, e⟩
  · obtain ⟨c, hc, h1, h2⟩ := hm i hi
    exact ⟨c, hc, by rw [e]; exact h1, fun j hj => by rw [e]; exact h2 j hj⟩
  · obtain ⟨c, hc, h1, h2⟩ := hm i hi
    obtain ⟨d, hd, h3, h4⟩ := hm k hk
    have hWk := hW k hk
    have hWi := hW i hi
    obtain ⟨t, ht⟩ := h2 k hk
    -- the whole combination, times c d
    have key : ∀ j, j ≤ n → c * d * g * ent (cleared rows k) i j = W k * (c * ent rows i j - t * (d * ent rows k j)) := fun j hj => by
      have q := e j hj
      have q2 : c * d * g * ent (cleared rows k) i j = c * d * (g * ent (cleared rows k) i j) := by rw [Int.mul_assoc]
      rw [q2, q]
      have q3 : c * d * (ent rows i j * ent rows k k - ent rows k j * ent rows i k) = (c * ent rows i j) * (d * ent rows k k) - (d * ent rows k j) * (c * ent rows i k) := by grind
      rw [q3, h3, ht]
      grind
    -- W k divides the factor
    have prim : W k ∣ c * d * g := by
      have q : W k ∣ (c * d) * gcdRow (wRow rows k i) := gcdRow_mul fun x hx => by
        obtain ⟨j, hj, rfl⟩ := List.getElem_of_mem hx
        rw [wRow_len s hi hk] at hj
        have q1 := key j (by omega)
        have q2 := e j (by omega)
        have q3 : (wRow rows k i)[j]'(by rw [wRow_len s hi hk]; exact hj) = (wRow rows k i).getD j 0 := by
          rw [List.getD_eq_getElem?_getD, List.getElem?_eq_getElem (by rw [wRow_len s hi hk]; exact hj)] <;> rfl
        rw [q3, wRow_get s hi hk (by omega), ← q2, ← Int.mul_assoc, q1]
        exact Int.dvd_mul_right _ _
      rw [← eg] at q
      exact q
    obtain ⟨f, hf⟩ := prim
    have hf0 : 0 < f := by
      have q : 0 < c * d * g := Int.mul_pos (Int.mul_pos hc hd) hg
      rw [hf, Int.mul_comm] at q
      exact Int.pos_of_mul_pos_left q hWk
    have key2 : ∀ j, j ≤ n → f * ent (cleared rows k) i j = c * ent rows i j - t * (d * ent rows k j) := fun j hj => by
      have q := key j hj
      rw [hf, Int.mul_assoc] at q
      exact Int.eq_of_mul_eq_mul_left (by omega) q
    have tneg : t < 0 := by
      have o : ent rows i k ≤ 0 := Rat.intCast_le_intCast.mp (h.off i k hi hk hn)
      have o2 : c * ent rows i k < 0 := Int.mul_neg_of_pos_of_neg hc (by omega)
      rw [ht] at o2
      by_cases z : t < 0
      · exact z
      · have := Int.mul_nonneg (Int.le_of_lt hWk) (by omega : 0 ≤ t)
        omega
    obtain ⟨r, hr⟩ := h4 i hi
    have rz : r = 0 := by
      have o : ent rows k i ≤ 0 := Rat.intCast_le_intCast.mp (h.off k i hk hi (Ne.symm hn))
      have o2 : d * ent rows k i ≤ 0 := Int.mul_nonpos_of_nonneg_of_nonpos (by omega) o
      rw [hr] at o2
      have r0 : r ≤ 0 := by
        by_cases z : r ≤ 0
        · exact z
        · have := Int.mul_pos hWi (by omega : 0 < r)
          omega
      have dg := diag_pos (h.step (clear_step s h hk) hk) hi
      have q := key2 i (by omega)
      have q2 : 0 < f * ent (cleared rows k) i i := Int.mul_pos hf0 dg
      rw [q, h1, hr] at q2
      by_cases z : r = 0
      · exact z
      · have z1 : 1 ≤ t * r := by
          have : 0 < (-t) * (-r) := Int.mul_pos (by omega) (by omega)
          have e1 : (-t) * (-r) = t * r := by grind
          omega
        have z2 : W i * 1 ≤ W i * (t * r) := Int.mul_le_mul_of_nonneg_left z1 (by omega)
        have z3 : t * (W i * r) = W i * (t * r) := by grind
        omega
    refine ⟨f, hf0, ?_, fun j hj => ?_⟩
    · rw [key2 i (by omega), h1, hr, rz]
      grind
    · rw [key2 j (by omega)]
      exact Int.dvd_sub (h2 j hj) (Int.dvd_mul_of_dvd_right (h4 j hj))
theorem mult_stepped (s : Shape n rows) (h : MM n v (matR rows)) {W : Nat → Int} (hW : ∀ i, i < n → 0 < W i) (hm : ∀ i, i < n → Mult n W rows i) : ∀ {m : Nat}, m ≤ n → ∀ i, i < n → Mult n W (stepped rows m) i
  | 0, _ => hm
  | m + 1, hle => fun i hi => mult_step (s.stepped (by omega)) (stepped_MM s h (by omega)) hW (by omega) (mult_stepped s h hW hm (m := m) (by omega)) hi
theorem mult_le {W : Nat → Int} {R : List (List Int)} (h : MM n v (matR R)) {i : Nat} (hi : i < n) (m : Mult n W R i) : ent R i i ≤ W i := by
  obtain ⟨c, hc, e, _⟩ := m
  rw [← e]
  have := Int.mul_le_mul_of_nonneg_right (by omega : 1 ≤ c) (Int.le_of_lt (diag_pos h hi))
  omega
end

/-! ### memory 0 and 1: few rows -/
def Pw (x y : Nat) : Nat → Nat
  | 0 => 1
  | 1 => 1
  | 2 => x
  | m + 3 => Pw x y (m + 2) * Pw x y (m + 2) * y
section
variable {n : Nat} {rows : List (List Int)} {v : Nat → Rat} {x y : Nat}
theorem Pw_pos (hx : 0 < x) (hy : 0 < y) : ∀ m, 0 < Pw x y m
  | 0 => Nat.one_pos
  | 1 => Nat.one_pos
  | 2 => hx
  | m + 3 => Nat.mul_pos (Nat.mul_pos (Pw_pos hx hy (m + 2)) (Pw_pos hx hy (m + 2))) hy
theorem Pw_mono (hx : 0 < x) (hy : 0 < y) : ∀ m, Pw x y m ≤ Pw x y (m + 1)
  | 0 => Nat.le_refl _
  | 1 => hx
  | m + 2 => by
    have h := Pw_pos hx hy (m + 2)
    show Pw x y (m + 2) ≤ Pw x y (m + 2) * Pw x y (m + 2) * y
    have h1 : Pw x y (m + 2) * 1 ≤ Pw x y (m + 2) * Pw x y (m + 2) := Nat.mul_le_mul_left _ h
    have h2 : Pw x y (m + 2) * Pw x y (m + 2) * 1 ≤ Pw x y (m + 2) * Pw x y (m + 2) * y := Nat.mul_le_mul_left _ hy
    omega
theorem Pw_le (hx : 0 < x) (hy : 0 < y) {m l : Nat} (h : m ≤ l) : Pw x y m ≤ Pw x y l := by
  induction l with
  | zero =>
    have : m = 0 := by omega
    subst this
    exact Nat.le_refl _
  | succ l ih =>
    by_cases e : m = l + 1
    · subst e
      exact Nat.le_refl _
    · exact Nat.le_trans (ih (by omega)) (Pw_mono hx hy l)
structure Few (n : Nat) (rows : List (List Int)) (x y : Nat) : Prop where
  xp : 0 < x
  yp : 0 < y
  col : ∀ i, i < n → i ≠ 0 → ent rows i 0 = 0
  w1 : 1 < n → ent rows 1 1 ≤ (x : Int)
  wk : ∀ k, k < n → 2 ≤ k → ent rows k k ≤ (y : Int)
theorem mul_le4 {a b c d : Int} (h1 : a ≤ b) (h2 : c ≤ d) (h3 : 0 ≤ c) (h4 : 0 ≤ b) : a * c ≤ b * d := Int.le_trans (Int.mul_le_mul_of_nonneg_right h1 h3) (Int.mul_le_mul_of_nonneg_left h2 h4)
theorem few_diag (s : Shape n rows) (h : MM n v (matR rows)) (f : Few n rows x y) : ∀ {m : Nat}, m ≤ n → ∀ i, i < n → ent (stepped rows m) i i ≤ ent rows i i * (Pw x y m : Nat)
  | 0, _ => fun i hi => by
    show ent rows i i ≤ ent rows i i * ((1 : Nat) : Int)
    omega
  | m + 1, hm => fun i hi => by
    have ih := few_diag s h f (m := m) (by omega)
    have sm := s.stepped (m := m) (by omega)
    have Mm := stepped_MM s h (m := m) (by omega)
    have p0 := diag_pos h hi
    have pm := Pw_pos f.xp f.yp m
    have mono : ent rows i i * (Pw x y m : Nat) ≤ ent rows i i * (Pw x y (m + 1) : Nat) := Int.mul_le_mul_of_nonneg_left (Int.ofNat_le.mpr (Pw_mono f.xp f.yp m)) (by omega)
    show ent (cleared (stepped rows m) m) i i ≤ _
    rcases clear_cases sm Mm (k := m) (by omega) hi with ⟨_, e⟩ | ⟨hn, h0, g, hg, eg, e⟩
    · rw [e]
      exact Int.le_trans (ih i hi) mono
    · have q := e i (by omega)
      have dm := diag_pos Mm (i := m) (by omega)
      have di := diag_pos Mm hi
      have dn := diag_pos (Mm.step (clear_step (k := m) sm Mm (by omega)) (by omega)) hi
      have w := wRow_diag_le sm Mm hi (by omega : m < n) hn
      rw [wRow_get sm hi (by omega) (by omega), ← q] at w
      have gl : 1 * ent (cleared (stepped rows m) m) i i ≤ g * ent (cleared (stepped rows m) m) i i := Int.mul_le_mul_of_nonneg_right (by omega) (by omega)
      have i1 := ih i hi
      have i2 := ih m (by omega)
      have key : ent rows i i * (Pw x y m : Nat) * (ent rows m m * (Pw x y m : Nat)) ≤ ent rows i i * (Pw x y (m + 1) : Nat) := by
        match m, pm, h0 with
        | 0, _, h0 =>
          have z : ent rows i 0 = 0 := f.col i hi hn
          exact absurd z h0
        | 1, _, _ =>
          show ent rows i i * ((1 : Nat) : Int) * (ent rows 1 1 * ((1 : Nat) : Int)) ≤ ent rows i i * ((x : Nat) : Int)
          have e1 : ent rows i i * ((1 : Nat) : Int) * (ent rows 1 1 * ((1 : Nat) : Int)) = ent rows i i * ent rows 1 1 := by grind
          rw [e1]
          exact Int.mul_le_mul_of_nonneg_left (f.w1 (by omega)) (by omega)
        | m + 2, pm, _ =>
          show _ ≤ ent rows i i * ((Pw x y (m + 2) * Pw x y (m + 2) * y : Nat) : Int)
          have e1 : ent rows i i * (Pw x y (m + 2) : Nat) * (ent rows (m + 2) (m + 2) * (Pw x y (m + 2) : Nat)) = ent rows i i * ((Pw x y (m + 2) : Int) * (Pw x y (m + 2) : Int) * ent rows (m + 2) (m + 2)) := by grind
          rw [e1, Int.natCast_mul, Int.natCast_mul]
          refine Int.mul_le_mul_of_nonneg_left (Int.mul_le_mul_of_nonneg_left (f.wk (m + 2) (by omega) (by omega)) ?_) (by omega)
          exact Int.mul_nonneg (Int.natCast_nonneg _) (Int.natCast_nonneg _)
      have m1 := mul_le4 i1 i2 (by omega) (Int.mul_nonneg (by omega) (Int.natCast_nonneg _))
      omega
theorem few_prod (s : Shape n rows) (h : MM n v (matR rows)) (f : Few n rows x y) {m i : Nat} (hm : m < n) (hi : i < n) (hn : i ≠ m) (h0 : ent (stepped rows m) i m ≠ 0) :
    ent (stepped rows m) i i * ent (stepped rows m) m m ≤ ent rows i i * (Pw x y (m + 1) : Nat) := by
  have i1 := few_diag s h f (m := m) (by omega) i hi
  have i2 := few_diag s h f (m := m) (by omega) m (by omega)
  have p0 := diag_pos h hi
  have dm := diag_pos (stepped_MM s h (m := m) (by omega)) (i := m) (by omega)
  refine Int.le_trans (mul_le4 i1 i2 (by omega) (Int.mul_nonneg (by omega) (Int.natCast_nonneg _))) ?_
  match m, h0 with
  | 0, h0 => exact absurd (f.col i hi hn) h0
  | 1, _ =>
    show ent rows i i * ((1 : Nat) : Int) * (ent rows 1 1 * ((1 : Nat) : Int)) ≤ ent rows i i * ((x : Nat) : Int)
    have e1 : ent rows i i * ((1 : Nat) : Int) * (ent rows 1 1 * ((1 : Nat) : Int)) = ent rows i i * ent rows 1 1 := by grind
    rw [e1]
    exact Int.mul_le_mul_of_nonneg_left (f.w1 (by omega)) (by omega)
  | m + 2, _ =>
    show _ ≤ ent rows i i * ((Pw x y (m + 2) * Pw x y (m + 2) * y : Nat) : Int)
    have e1 : ent rows i i * (Pw x y (m + 2) : Nat) * (ent rows (m + 2) (m + 2) * (Pw x y (m + 2) : Nat)) = ent rows i i * ((Pw x y (m + 2) : Int) * (Pw x y (m + 2) : Int) * ent rows (m + 2) (m + 2)) := by grind
    rw [e1, Int.natCast_mul, Int.natCast_mul]
    refine Int.mul_le_mul_of_nonneg_left (Int.mul_le_mul_of_nonneg_left (f.wk (m + 2) (by omega) (by omega)) ?_) (by omega)
    exact Int.mul_nonneg (Int.natCast_nonneg _) (Int.natCast_nonneg _)
end
/-- how great it gets -/
theorem Pw_eq (x y : Nat) : Pw x y 11 = x * (x * y) ^ 511 := by
  have h : ∀ m, Pw x y (m + 2) * y = (x * y) ^ (2 ^ m) := by
    intro m
    induction m with
    | zero => show x * y = (x * y) ^ 1; rw [Nat.pow_one]
    | succ m ih =>
      show Pw x y (m + 2) * Pw x y (m + 2) * y * y = _
      have e : Pw x y (m + 2) * Pw x y (m + 2) * y * y = (Pw x y (m + 2) * y) * (Pw x y (m + 2) * y) := by grind
      rw [e, ih, ← Nat.pow_add, Nat.pow_succ]
      congr 1
      omega
  have h8 := h 8
  show Pw x y 10 * Pw x y 10 * y = _
  have e1 : ∀ m, Pw x y (m + 2) * Pw x y (m + 2) * y = x * (x * y) ^ (2 ^ (m + 1) - 1) := by
    intro m
    induction m with
    | zero => show x * x * y = x * (x * y) ^ 1; rw [Nat.pow_one, Nat.mul_assoc]
    | succ m ih =>
      show (Pw x y (m + 2) * Pw x y (m + 2) * y) * (Pw x y (m + 2) * Pw x y (m + 2) * y) * y = _
      have e : (Pw x y (m + 2) * Pw x y (m + 2) * y) * (Pw x y (m + 2) * Pw x y (m + 2) * y) * y = (Pw x y (m + 2) * Pw x y (m + 2) * y) * (Pw x y (m + 3) * y) := by
        show _ = (Pw x y (m + 2) * Pw x y (m + 2) * y) * (Pw x y (m + 2) * Pw x y (m + 2) * y * y)
        grind
      rw [e, ih, h (m + 1), Nat.mul_assoc, ← Nat.pow_add]
      congr 2
      have := Nat.one_le_two_pow (n := m + 1)
      rw [Nat.pow_succ 2 (m + 1)]
      omega
  exact e1 8
theorem prod_le {x y s : Nat} (h : x + y ≤ s) : x * y ≤ s * s / 4 := by
  refine (Nat.le_div_iff_mul_le (by decide)).mpr ?_
  have h1 : x * y * 4 ≤ (x + y) * (x + y) := by
    have : (x + y) * (x + y) = x * x + 2 * (x * y) + y * y := by grind
    rw [this]
    rcases Nat.le_total x y with c | c
    · obtain ⟨d, rfl⟩ := Nat.le.dest c
      have e1 : x * (x + d) = x * x + x * d := by grind
      have e2 : (x + d) * (x + d) = x * x + 2 * (x * d) + d * d := by grind
      rw [e1, e2]
      omega
    · obtain ⟨d, rfl⟩ := Nat.le.dest c
      have e1 : (y + d) * y = y * y + y * d := by grind
      have e2 : (y + d) * (y + d) = y * y + 2 * (y * d) + d * d := by grind
      rw [e1, e2]
      omega
  exact Nat.le_trans h1 (Nat.mul_le_mul h h)
end CN
/-! The specification's elimination. -/
namespace CN
open Km522

def entQ (Q : List (List Rat)) (i j : Nat) : Rat := (Q.getD i []).getD j 0
def toF (Q : List (List Rat)) : Eqs := Q.map fun r => r.map fr
def ShapeQ (n : Nat) (Q : List (List Rat)) : Prop := Q.length = n ∧ ∀ r ∈ Q, r.length = n + 1
def clearQ (n k : Nat) (Q : List (List Rat)) : List (List Rat) :=
  (List.range n).map fun i => if i = k then (Q.getD k []).map fun x => x / entQ Q k k else (List.range (Q.getD i []).length).map fun j => entQ Q i j - entQ Q i k * (((Q.getD k []).map fun x => x / entQ Q k k).getD j 0)
theorem getD_map {α β : Type} {f : α → β} {l : List α} {i : Nat} {d : α} {e : β} (h : f d = e) : (l.map f).getD i e = f (l.getD i d) := by
  rw [List.getD_eq_getElem?_getD, List.getD_eq_getElem?_getD, List.getElem?_map]
  cases l[i]? with
  | none => exact h.symm
  | some x => rfl
theorem toF_row (Q : List (List Rat)) (i : Nat) : (toF Q).getD i [] = (Q.getD i []).map fr := getD_map rfl
theorem cell_toF (Q : List (List Rat)) (i j : Nat) : cell (toF Q) i j = fr (entQ Q i j) := by
  unfold cell
  rw [toF_row]
  exact getD_map rfl
theorem fr_n_ne {a : Rat} : ((fr a).n != 0) = decide (a ≠ 0) := by
  rw [fr_n]
  by_cases h : a = 0
  · subst h
    rfl
  · have : a.num ≠ 0 := fun z => h (Rat.num_eq_zero.mp z)
    rw [decide_eq_true h]
    exact bne_iff_ne.mpr this
theorem find_self {n k : Nat} {p : Nat → Bool} (hk : k < n) (hp : p k = true) (hl : ∀ i, i < k → p i = false) : (List.range n).find? p = some k := by
  rw [List.find?_range_eq_some]
  exact ⟨hp, List.mem_range.mpr hk, fun j hj => by rw [hl j hj]; rfl⟩
theorem find_filter {n k : Nat} {q : Nat → Bool} (hk : k < n) (hq : q k = true) : ((List.range n).filter fun i => decide (k ≤ i)).find? q = some k := by
  rw [List.find?_filter]
  refine find_self hk ?_ fun i hi => ?_
  · simp [hq]
  · simp
    omega
theorem set_self {α : Type} {l : List α} {i : Nat} {d : α} (h : i < l.length) : l.set i (l.getD i d) = l := by
  rw [List.getD_eq_getElem?_getD, List.getElem?_eq_getElem h]
  exact List.set_getElem_self h
theorem clear1_toF {n k : Nat} {Q : List (List Rat)} (s : ShapeQ n Q) (hk : k < n) (h0 : entQ Q k k ≠ 0) : clear1 n k (toF Q) = toF (clearQ n k Q) := by
  have hf : (((List.range n).filter fun i => decide (k ≤ i)).find? fun i => (cell (toF Q) i k).n != 0) = some k := find_filter hk (by
    rw [cell_toF, fr_n_ne]
    exact decide_eq_true h0)
  have hl : k < (toF Q).length := by
    unfold toF
    rw [List.length_map, s.1]
    exact hk
  unfold clear1
  rw [hf]
  dsimp only
  have e1 : ((toF Q).set k ((toF Q).getD k [])).set k ((toF Q).getD k []) = toF Q := by
    rw [set_self hl]
    exact set_self hl
  rw [e1]
  unfold clearQ
  conv => rhs; unfold toF
  rw [List.map_map]
  refine List.map_congr_left fun i hi => ?_
  have hi := List.mem_range.mp hi
  have ev : ((toF Q).getD k []).map (fun x => quot x (cell (toF Q) k k)) = ((Q.getD k []).map fun x => x / entQ Q k k).map fr := by
    rw [toF_row, List.map_map, List.map_map, cell_toF]
    refine List.map_congr_left fun x _ => ?_
    exact quot_fr _ _
  rw [ev]
  show (if i = k then _ else _) = List.map fr (if i = k then _ else _)
  by_cases e : i = k
  · rw [if_pos e, if_pos e]
  · rw [if_neg e, if_neg e, cell_toF, toF_row]
    unfold combine
    rw [List.length_map]
    conv => rhs; rw [List.map_map]
    refine List.map_congr_left fun j _ => ?_
    have g1 : ((Q.getD i []).map fr).getD j zero = fr ((Q.getD i []).getD j 0) := getD_map rfl
    have g2 : (((Q.getD k []).map fun x => x / entQ Q k k).map fr).getD j zero = fr ((((Q.getD k []).map fun x => x / entQ Q k k)).getD j 0) := getD_map rfl
    rw [g1, g2, mul_fr, sub_fr]
    rfl
theorem ShapeQ.clearQ {n k : Nat} {Q : List (List Rat)} (s : ShapeQ n Q) (hk : k < n) : ShapeQ n (clearQ n k Q) := by
  refine ⟨by unfold CN.clearQ; rw [List.length_map, List.length_range], fun r hr => ?_⟩
  obtain ⟨i, hi, rfl⟩ := List.mem_map.mp hr
  have hi := List.mem_range.mp hi
  by_cases e : i = k
  · rw [if_pos e, List.length_map]
    exact s.2 _ (getD_mem (by rw [s.1]; exact hk))
  · rw [if_neg e, List.length_map, List.length_range]
    exact s.2 _ (getD_mem (by rw [s.1]; exact hi))
theorem range_map_getD {α : Type} {n i : Nat} {f : Nat → α} {d : α} (hi : i < n) : ((List.range n).map f).getD i d = f i := by
  rw [List.getD_eq_getElem?_getD, List.getElem?_map, List.getElem?_range hi]
  rfl
theorem clearQ_own {n k : Nat} {Q : List (List Rat)} (hk : k < n) (j : Nat) : entQ (clearQ n k Q) k j = entQ Q k j / entQ Q k k := by
  show ((clearQ n k Q).getD k []).getD j 0 = _
  unfold clearQ
  have z : (0 : Rat) / entQ Q k k = 0 := by grind
  rw [range_map_getD hk, if_pos rfl]
  exact getD_map (f := fun x => x / entQ Q k k) (d := (0 : Rat)) z
theorem clearQ_oth {n k : Nat} {Q : List (List Rat)} (s : ShapeQ n Q) {i j : Nat} (hi : i < n) (hn : i ≠ k) (hj : j ≤ n) : entQ (clearQ n k Q) i j = entQ Q i j - entQ Q i k * (entQ Q k j / entQ Q k k) := by
  show ((clearQ n k Q).getD i []).getD j 0 = _
  unfold clearQ
  have z : (0 : Rat) / entQ Q k k = 0 := by grind
  rw [range_map_getD hi, if_neg hn, range_map_getD (by rw [s.2 _ (getD_mem (by rw [s.1]; exact hi))]; omega)]
  have e : ((Q.getD k []).map fun x => x / entQ Q k k).getD j 0 = entQ Q k j / entQ Q k k := getD_map (f := fun x => x / entQ Q k k) (d := (0 : Rat)) z
  rw [e]
theorem clearQ_step {n k : Nat} {Q : List (List Rat)} (s : ShapeQ n Q) (hk : k < n) (h0 : 0 < entQ Q k k) : StepR n k (entQ Q) (entQ (clearQ n k Q)) := by
  refine ⟨⟨entQ Q k k, h0, fun j hj => ?_⟩, fun i hi hn => ⟨entQ Q k k, h0, fun j hj => ?_⟩⟩
  · rw [clearQ_own hk]
    grind
  · rw [clearQ_oth s hi hn hj]
    grind
theorem foldl_succ {α : Type} (f : α → Nat → α) (a : α) (n : Nat) : (List.range (n + 1)).foldl f a = f ((List.range n).foldl f a) n := by
  rw [List.range_succ, List.foldl_append]
  rfl
theorem solve_steps {n : Nat} {Q : List (List Rat)} {v : Nat → Rat} (s : ShapeQ n Q) (h : MM n v (entQ Q)) : ∀ {m : Nat}, m ≤ n → ∃ R : List (List Rat),
    (List.range m).foldl (fun (e : Eqs) (j : Nat) => clear1 n j e) (toF Q) = toF R ∧ ShapeQ n R ∧ MM n v (entQ R) ∧ Done n m (entQ R) ∧ (∀ x, Sol n x (entQ R) ↔ Sol n x (entQ Q)) ∧ ∀ j, j < m → entQ R j j = 1
  | 0, _ => ⟨Q, rfl, s, h, fun _ _ _ hc _ => absurd hc (Nat.not_lt_zero _), fun _ => Iff.rfl, fun _ hj => absurd hj (Nat.not_lt_zero _)⟩
  | m + 1, hm => by
    obtain ⟨R, e, sR, hR, dR, xR, oR⟩ := solve_steps s h (m := m) (by omega)
    have d0 := hR.diag (i := m) (by omega)
    have st := clearQ_step sR (k := m) (by omega) d0
    refine ⟨clearQ n m R, ?_, sR.clearQ (by omega), hR.step st (by omega), dR.step st (by omega), fun x => (hR.sol st (by omega)).trans (xR x), fun j hj => ?_⟩
    · rw [foldl_succ, e]
      exact clear1_toF sR (by omega) (by grind)
    · by_cases c : j = m
      · subst c
        rw [clearQ_own (by omega)]
        grind
      · rw [clearQ_oth sR (by omega) c (by omega), oR j (by omega), dR m j (by omega) (by omega) (Ne.symm c)]
        grind
theorem solve_eq {n : Nat} {Q : List (List Rat)} {v : Nat → Rat} (s : ShapeQ n Q) (h : MM n v (entQ Q)) {x : Nat → Rat} (q : Sol n x (entQ Q)) : solve n (toF Q) = (List.range n).map fun i => fr (x i) := by
  obtain ⟨R, e, sR, hR, dR, xR, oR⟩ := solve_steps s h (Nat.le_refl n)
  unfold solve
  rw [e]
  refine List.map_congr_left fun i hi => ?_
  have hi := List.mem_range.mp hi
  rw [cell_toF]
  congr 1
  rw [Sol.of_done hR dR ((xR x).mpr q) hi, oR i hi]
  grind
end CN
/-! What is remembered: the specification's states, their weights. -/
namespace CN
open Km522

structure DeskOk (d : Desk) : Prop where
  many : d.cases.length ≤ 16
  len : ∀ c ∈ d.cases, c.1.length ≤ 8
  act : ∀ c ∈ d.cases, ∀ a ∈ c.1, a < 10
  often : ∀ c ∈ d.cases, 1 ≤ c.2 ∧ c.2 ≤ 100
  nd : (d.cases.map (·.1)).Nodup
  rlen : d.row.length ≤ 8
  ract : ∀ a ∈ d.row, a < 10
  mem : d.memory ≤ 2

/-! ### sums of Nat -/
def SN : Nat → (Nat → Nat) → Nat
  | 0, _ => 0
  | n + 1, f => SN n f + f n
theorem SN_congr {n : Nat} {f g : Nat → Nat} (h : ∀ i, i < n → f i = g i) : SN n f = SN n g := by
  induction n with
  | zero => rfl
  | succ n ih =>
    show SN n f + f n = SN n g + g n
    rw [ih fun i hi => h i (by omega), h n (by omega)]
theorem SN_add (n : Nat) (f g : Nat → Nat) : SN n (fun i => f i + g i) = SN n f + SN n g := by
  induction n with
  | zero => rfl
  | succ n ih =>
    show SN n _ + (f n + g n) = (SN n f + f n) + (SN n g + g n)
    rw [ih]
    omega
theorem SN_zero (n : Nat) : SN n (fun _ => 0) = 0 := by
  induction n with
  | zero => rfl
  | succ n ih => show SN n _ + 0 = 0; rw [ih]
theorem SN_ite {n k : Nat} (hk : k < n) (w : Nat) : SN n (fun a => if k = a then w else 0) = w := by
  induction n with
  | zero => omega
  | succ n ih =>
    show SN n _ + (if k = n then w else 0) = w
    by_cases e : k = n
    · subst e
      rw [if_pos rfl, SN_congr (g := fun _ => 0) fun i hi => if_neg (by omega), SN_zero]
      omega
    · rw [if_neg e, ih (by omega)]
      omega
theorem SN_le {n : Nat} {f g : Nat → Nat} (h : ∀ i, i < n → f i ≤ g i) : SN n f ≤ SN n g := by
  induction n with
  | zero => exact Nat.le_refl _
  | succ n ih =>
    have h1 := ih fun i hi => h i (by omega)
    have h2 := h n (by omega)
    show SN n f + f n ≤ SN n g + g n
    omega
theorem SN_range (n : Nat) (f : Nat → Nat) : ((List.range n).map f).sum = SN n f := by
  induction n with
  | zero => rfl
  | succ n ih =>
    rw [List.range_succ, List.map_append, List.sum_append_nat, ih]
    show SN n f + (f n + 0) = SN n f + f n
    omega
theorem le_SN {n k : Nat} (hk : k < n) (f : Nat → Nat) : f k ≤ SN n f := by
  induction n with
  | zero => omega
  | succ n ih =>
    show f k ≤ SN n f + f n
    by_cases e : k = n
    · subst e
      omega
    · have := ih (by omega)
      omega

/-! ### weights -/
abbrev Stp := List Nat × Nat × Nat
def ws (l : List Stp) (p : Stp → Bool) : Nat := ((l.filter p).map fun x => x.2.2).sum
theorem ws_nil (p : Stp → Bool) : ws [] p = 0 := rfl
theorem ws_cons (x : Stp) (l : List Stp) (p : Stp → Bool) : ws (x :: l) p = (if p x = true then x.2.2 else 0) + ws l p := by
  unfold ws
  by_cases h : p x = true
  · rw [List.filter_cons, if_pos h, if_pos h, List.map_cons, List.sum_cons]
  · rw [List.filter_cons, if_neg h, if_neg h, Nat.zero_add]
theorem ws_append (l m : List Stp) (p : Stp → Bool) : ws (l ++ m) p = ws l p + ws m p := by
  unfold ws
  rw [List.filter_append, List.map_append, List.sum_append_nat]
theorem ws_pos {l : List Stp} {p : Stp → Bool} : 0 < ws l p ↔ ∃ x ∈ l, p x = true ∧ 0 < x.2.2 := by
  induction l with
  | nil => exact ⟨fun h => absurd h (Nat.lt_irrefl 0), fun ⟨x, hx, _⟩ => nomatch hx⟩
  | cons a l ih =>
    rw [ws_cons]
    constructor
    · intro h
      by_cases c : p a = true ∧ 0 < a.2.2
      · exact ⟨a, List.mem_cons_self .., c⟩
      · have : 0 < ws l p := by
          by_cases c1 : p a = true
          · rw [if_pos c1] at h
            have : ¬ 0 < a.2.2 := fun z => c ⟨c1, z⟩
            omega
          · rw [if_neg c1] at h
            omega
        obtain ⟨x, hx, q⟩ := ih.mp this
        exact ⟨x, List.mem_cons_of_mem _ hx, q⟩
    · rintro ⟨x, hx, h1, h2⟩
      rcases List.mem_cons.mp hx with e | hx
      · subst e
        rw [if_pos h1]
        omega
      · have := ih.mpr ⟨x, hx, h1, h2⟩
        omega
theorem ws_congr {l : List Stp} {p q : Stp → Bool} (h : ∀ x ∈ l, p x = q x) : ws l p = ws l q := by
  unfold ws
  rw [List.filter_congr h]
theorem ws_le {l : List Stp} {p q : Stp → Bool} (h : ∀ x ∈ l, p x = true → q x = true) : ws l p ≤ ws l q := by
  induction l with
  | nil => exact Nat.le_refl _
  | cons a l ih =>
    rw [ws_cons, ws_cons]
    have h1 := ih fun x hx => h x (List.mem_cons_of_mem _ hx)
    by_cases c : p a = true
    · rw [if_pos c, if_pos (h a (List.mem_cons_self ..) c)]
      omega
    · rw [if_neg c]
      omega
/-- two that exclude each other -/
theorem ws_two {l : List Stp} {p q r : Stp → Bool} (h : ∀ x ∈ l, p x = true → q x = true → False) (hp : ∀ x ∈ l, p x = true → r x = true) (hq : ∀ x ∈ l, q x = true → r x = true) : ws l p + ws l q ≤ ws l r := by
  induction l with
  | nil => exact Nat.le_refl _
  | cons a l ih =>
    rw [ws_cons, ws_cons, ws_cons]
    have h1 := ih (fun x hx => h x (List.mem_cons_of_mem _ hx)) (fun x hx => hp x (List.mem_cons_of_mem _ hx)) (fun x hx => hq x (List.mem_cons_of_mem _ hx))
    have m := List.mem_cons_self (a := a) (l := l)
    by_cases c : p a = true
    · rw [if_pos c, if_pos (hp a m c), if_neg (fun z => h a m c z)]
      omega
    · rw [if_neg c]
      by_cases c2 : q a = true
      · rw [if_pos c2, if_pos (hq a m c2)]
        omega
      · rw [if_neg c2]
        omega
theorem ws_split {l : List Stp} {p : Stp → Bool} {n : Nat} (h : ∀ x ∈ l, p x = true → x.2.1 < n) : ws l p = SN n fun a => ws l fun x => p x && x.2.1 == a := by
  induction l with
  | nil => rw [ws_nil]; exact (SN_zero n).symm
  | cons x l ih =>
    rw [ws_cons, ih fun y hy => h y (List.mem_cons_of_mem _ hy)]
    have e : (fun a => ws (x :: l) fun y => p y && y.2.1 == a) = fun a => (if p x = true then (if x.2.1 = a then x.2.2 else 0) else 0) + ws l fun y => p y && y.2.1 == a := by
      funext a
      rw [ws_cons]
      congr 1
      by_cases c : p x = true
      · rw [if_pos c, c, Bool.true_and]
        by_cases c2 : x.2.1 = a
        · rw [if_pos c2, if_pos (beq_iff_eq.mpr c2)]
        · rw [if_neg c2, if_neg (fun z => c2 (beq_iff_eq.mp z))]
      · rw [if_neg c, if_neg]
        intro z
        rw [Bool.and_eq_true] at z
        exact c z.1
    rw [e, SN_add]
    congr 1
    by_cases c : p x = true
    · rw [if_pos c]
      simp only [c, if_true]
      exact (SN_ite (h x (List.mem_cons_self ..) c) _).symm
    · rw [if_neg c]
      simp only [if_neg c]
      exact (SN_zero n).symm

/-! ### the specification's words -/
theorem sum_eq (l : List Nat) : Km522.sum l = l.sum := by
  unfold Km522.sum
  rw [List.sum_eq_foldl]
theorem from_eq (d : Desk) (s : List Nat) : from_ d s = ws (steps d) fun x => x.1 == s := sum_eq _
theorem fromTo_eq (d : Desk) (s : List Nat) (a : Nat) : fromTo d s a = ws (steps d) fun x => x.1 == s && x.2.1 == a := sum_eq _
theorem mem_steps {d : Desk} {x : Stp} : x ∈ steps d ↔ ∃ c ∈ d.cases, ∃ k, k ≤ c.1.length ∧ x = (mind d.memory (c.1.take k), c.1.getD k END, c.2) := by
  unfold steps
  rw [List.mem_flatMap]
  constructor
  · rintro ⟨c, hc, h⟩
    obtain ⟨k, hk, rfl⟩ := List.mem_map.mp h
    exact ⟨c, hc, k, by have := List.mem_range.mp hk; omega, rfl⟩
  · rintro ⟨c, hc, k, hk, rfl⟩
    exact ⟨c, hc, List.mem_map.mpr ⟨k, List.mem_range.mpr (by omega), rfl⟩⟩
theorem step_act {d : Desk} (o : DeskOk d) {x : Stp} (hx : x ∈ steps d) : x.2.1 < 11 := by
  obtain ⟨c, hc, k, hk, rfl⟩ := mem_steps.mp hx
  show c.1.getD k END < 11
  by_cases e : k < c.1.length
  · have m : c.1.getD k END ∈ c.1 := by
      rw [List.getD_eq_getElem?_getD, List.getElem?_eq_getElem e]
      exact List.getElem_mem e
    have := o.act c hc _ m
    omega
  · rw [List.getD_eq_getElem?_getD, List.getElem?_eq_none (by omega)]
    show END < 11
    decide
theorem step_pos {d : Desk} (o : DeskOk d) {x : Stp} (hx : x ∈ steps d) : 0 < x.2.2 := by
  obtain ⟨c, hc, k, hk, rfl⟩ := mem_steps.mp hx
  exact (o.often c hc).1
theorem from_split {d : Desk} (o : DeskOk d) (s : List Nat) : from_ d s = SN 11 (fromTo d s) := by
  rw [from_eq, ws_split (n := 11) fun x hx _ => step_act o hx]
  exact SN_congr fun a _ => (fromTo_eq d s a).symm

/-! ### states -/
def dd (acc l : List (List Nat)) : List (List Nat) := l.foldl (fun (l : List (List Nat)) (s : List Nat) => if l.contains s then l else l ++ [s]) acc
theorem dd_cons (acc : List (List Nat)) (x : List Nat) (l : List (List Nat)) : dd acc (x :: l) = dd (if acc.contains x then acc else acc ++ [x]) l := rfl
theorem mem_dd {l : List (List Nat)} : ∀ {acc : List (List Nat)} {y : List Nat}, y ∈ dd acc l ↔ y ∈ acc ∨ y ∈ l := by
  induction l with
  | nil => intro acc y; exact ⟨.inl, fun h => h.elim id fun z => nomatch z⟩
  | cons x l ih =>
    intro acc y
    rw [dd_cons, ih, List.mem_cons]
    by_cases c : acc.contains x = true
    · rw [if_pos c]
      constructor
      · rintro (h | h)
        · exact .inl h
        · exact .inr (.inr h)
      · rintro (h | h | h)
        · exact .inl h
        · subst h
          exact .inl (List.contains_iff_mem.mp c)
        · exact .inr h
    · rw [if_neg c, List.mem_append, List.mem_singleton]
      constructor
      · rintro ((h | h) | h)
        · exact .inl h
        · exact .inr (.inl h)
        · exact .inr (.inr h)
      · rintro (h | h | h)
        · exact .inl (.inl h)
        · exact .inl (.inr h)
        · exact .inr h
theorem nodup_snoc {l : List (List Nat)} {x : List Nat} (h : l.Nodup) (hx : x ∉ l) : (l ++ [x]).Nodup := by
  rw [List.nodup_append]
  refine ⟨h, List.nodup_cons.mpr ⟨List.not_mem_nil, List.nodup_nil⟩, fun a ha b hb e => ?_⟩
  rw [List.mem_singleton] at hb
  subst hb e
  exact hx ha
theorem nodup_dd {l : List (List Nat)} : ∀ {acc : List (List Nat)}, acc.Nodup → (dd acc l).Nodup := by
  induction l with
  | nil => intro acc h; exact h
  | cons x l ih =>
    intro acc h
    rw [dd_cons]
    by_cases c : acc.contains x = true
    · rw [if_pos c]
      exact ih h
    · rw [if_neg c]
      exact ih (nodup_snoc h fun z => c (List.contains_iff_mem.mpr z))
theorem dd_prefix {l : List (List Nat)} : ∀ {acc : List (List Nat)}, ∃ t, dd acc l = acc ++ t := by
  induction l with
  | nil => intro acc; exact ⟨[], (List.append_nil _).symm⟩
  | cons x l ih =>
    intro acc
    rw [dd_cons]
    by_cases c : acc.contains x = true
    · rw [if_pos c]
      exact ih
    · rw [if_neg c]
      obtain ⟨t, e⟩ := ih (acc := acc ++ [x])
      exact ⟨x :: t, by rw [e, List.append_assoc]; rfl⟩
theorem dd_len {l : List (List Nat)} : ∀ {acc : List (List Nat)}, (dd acc l).length ≤ acc.length + l.length := by
  induction l with
  | nil => intro acc; exact Nat.le_refl _
  | cons x l ih =>
    intro acc
    rw [dd_cons]
    by_cases c : acc.contains x = true
    · rw [if_pos c, List.length_cons]
      have := ih (acc := acc)
      omega
    · rw [if_neg c, List.length_cons]
      have := ih (acc := acc ++ [x])
      rw [List.length_append, List.length_singleton] at this
      omega
theorem states_dd (d : Desk) : states d = dd [] ((steps d).map fun x => x.1) := rfl
theorem states_nodup (d : Desk) : (states d).Nodup := nodup_dd List.nodup_nil
theorem mem_states {d : Desk} {s : List Nat} : s ∈ states d ↔ ∃ c ∈ d.cases, ∃ k, k ≤ c.1.length ∧ s = mind d.memory (c.1.take k) := by
  rw [states_dd, mem_dd, List.mem_map]
  constructor
  · rintro (h | ⟨x, hx, rfl⟩)
    · exact nomatch h
    · obtain ⟨c, hc, k, hk, rfl⟩ := mem_steps.mp hx
      exact ⟨c, hc, k, hk, rfl⟩
  · rintro ⟨c, hc, k, hk, rfl⟩
    exact .inr ⟨_, mem_steps.mpr ⟨c, hc, k, hk, rfl⟩, rfl⟩
theorem from_pos {d : Desk} (o : DeskOk d) {s : List Nat} : 0 < from_ d s ↔ s ∈ states d := by
  rw [from_eq, ws_pos, mem_states]
  constructor
  · rintro ⟨x, hx, h1, _⟩
    obtain ⟨c, hc, k, hk, rfl⟩ := mem_steps.mp hx
    exact ⟨c, hc, k, hk, (beq_iff_eq.mp h1).symm⟩
  · rintro ⟨c, hc, k, hk, rfl⟩
    have m : (mind d.memory (c.1.take k), c.1.getD k END, c.2) ∈ steps d := mem_steps.mpr ⟨c, hc, k, hk, rfl⟩
    exact ⟨_, m, beq_self_eq_true _, step_pos o m⟩
theorem fromTo_pos {d : Desk} (o : DeskOk d) {s : List Nat} {a : Nat} : 0 < fromTo d s a ↔ ∃ c ∈ d.cases, ∃ k, k ≤ c.1.length ∧ mind d.memory (c.1.take k) = s ∧ c.1.getD k END = a := by
  rw [fromTo_eq, ws_pos]
  constructor
  · rintro ⟨x, hx, h1, _⟩
    obtain ⟨c, hc, k, hk, rfl⟩ := mem_steps.mp hx
    rw [Bool.and_eq_true] at h1
    exact ⟨c, hc, k, hk, beq_iff_eq.mp h1.1, beq_iff_eq.mp h1.2⟩
  · rintro ⟨c, hc, k, hk, h1, h2⟩
    have m : (mind d.memory (c.1.take k), c.1.getD k END, c.2) ∈ steps d := mem_steps.mpr ⟨c, hc, k, hk, rfl⟩
    refine ⟨_, m, ?_, step_pos o m⟩
    show (mind d.memory (c.1.take k) == s && c.1.getD k END == a) = true
    rw [h1, h2, beq_self_eq_true, beq_self_eq_true]
    rfl
theorem getD_lt {l : List Nat} {k a : Nat} (h : l.getD k END = a) (ha : a < 10) : k < l.length := by
  by_cases c : k < l.length
  · exact c
  · rw [List.getD_eq_getElem?_getD, List.getElem?_eq_none (by omega)] at h
    have : END = a := h
    have e : END = 10 := rfl
    omega
theorem take_snoc {l : List Nat} {k a : Nat} (h : l.getD k END = a) (ha : a < 10) : l.take (k + 1) = l.take k ++ [a] := by
  have hk := getD_lt h ha
  rw [List.getD_eq_getElem?_getD, List.getElem?_eq_getElem hk] at h
  have h' : l[k] = a := h
  rw [← h', List.take_append_getElem]
/-- remembering goes on from what is remembered -/
theorem mind_mind (m : Nat) (p : List Nat) (a : Nat) : mind m (mind m p ++ [a]) = mind m (p ++ [a]) := by
  unfold mind
  by_cases h0 : m = 0
  · rw [if_pos h0, if_pos h0]
  · rw [if_neg h0, if_neg h0, if_neg h0]
    by_cases h1 : m = 1
    · rw [if_pos h1, if_pos h1, if_pos h1, List.getLast?_concat, List.getLast?_concat]
    · rw [if_neg h1, if_neg h1, if_neg h1]
theorem onTo_mem {d : Desk} (o : DeskOk d) {s : List Nat} {a : Nat} (ha : a < 10) (h : 0 < fromTo d s a) : onTo d s a ∈ states d := by
  obtain ⟨c, hc, k, hk, h1, h2⟩ := (fromTo_pos o).mp h
  refine mem_states.mpr ⟨c, hc, k + 1, getD_lt h2 ha, ?_⟩
  unfold onTo
  rw [take_snoc h2 ha, ← h1, mind_mind]
theorem mind_nil (m : Nat) : mind m [] = [] := by
  unfold mind
  split
  · rfl
  · split <;> rfl
theorem nil_mem {d : Desk} (h : d.cases ≠ []) : [] ∈ states d := by
  cases e : d.cases with
  | nil => exact absurd e h
  | cons c r => exact mem_states.mpr ⟨c, by rw [e]; exact List.mem_cons_self .., 0, Nat.zero_le _, by rw [List.take_zero, mind_nil]⟩

/-! ### how near the end -/
def ranks (d : Desk) (s : List Nat) : List Nat := (d.cases.flatMap fun c => ((List.range (c.1.length + 1)).filter fun k => mind d.memory (c.1.take k) == s).map fun k => c.1.length - k + 1)
theorem mem_ranks {d : Desk} {s : List Nat} {r : Nat} : r ∈ ranks d s ↔ ∃ c ∈ d.cases, ∃ k, k ≤ c.1.length ∧ mind d.memory (c.1.take k) = s ∧ r = c.1.length - k + 1 := by
  unfold ranks
  rw [List.mem_flatMap]
  constructor
  · rintro ⟨c, hc, h⟩
    obtain ⟨k, hk, rfl⟩ := List.mem_map.mp h
    obtain ⟨h1, h2⟩ := List.mem_filter.mp hk
    exact ⟨c, hc, k, by have := List.mem_range.mp h1; omega, beq_iff_eq.mp h2, rfl⟩
  · rintro ⟨c, hc, k, hk, h1, rfl⟩
    exact ⟨c, hc, List.mem_map.mpr ⟨k, List.mem_filter.mpr ⟨List.mem_range.mpr (by omega), beq_iff_eq.mpr h1⟩, rfl⟩⟩
def rank (d : Desk) (s : List Nat) : Nat := (ranks d s).min?.getD 1
theorem rank_spec {d : Desk} {s : List Nat} (h : s ∈ states d) : rank d s ∈ ranks d s ∧ ∀ r ∈ ranks d s, rank d s ≤ r := by
  obtain ⟨c, hc, k, hk, e⟩ := mem_states.mp h
  have hm : c.1.length - k + 1 ∈ ranks d s := mem_ranks.mpr ⟨c, hc, k, hk, e.symm, rfl⟩
  unfold rank
  cases q : (ranks d s).min? with
  | none =>
    rw [List.min?_eq_none_iff] at q
    rw [q] at hm
    exact nomatch hm
  | some r => exact List.min?_eq_some_iff.mp q
theorem rank_bd {d : Desk} (o : DeskOk d) {s : List Nat} (h : s ∈ states d) : 1 ≤ rank d s ∧ rank d s ≤ 9 := by
  obtain ⟨c, hc, k, hk, _, e⟩ := mem_ranks.mp (rank_spec h).1
  have := o.len c hc
  omega
/-- it ends here, or an act leads nearer -/
theorem rank_next {d : Desk} (o : DeskOk d) {s : List Nat} (h : s ∈ states d) : 0 < fromTo d s 10 ∨ ∃ a, a < 10 ∧ 0 < fromTo d s a ∧ rank d (onTo d s a) < rank d s := by
  obtain ⟨c, hc, k, hk, e, er⟩ := mem_ranks.mp (rank_spec h).1
  by_cases q : k < c.1.length
  · refine .inr ⟨c.1.getD k END, ?_, (fromTo_pos o).mpr ⟨c, hc, k, hk, e, rfl⟩, ?_⟩
    · refine o.act c hc _ ?_
      rw [List.getD_eq_getElem?_getD, List.getElem?_eq_getElem q]
      exact List.getElem_mem q
    · have ha : c.1.getD k END < 10 := by
        refine o.act c hc _ ?_
        rw [List.getD_eq_getElem?_getD, List.getElem?_eq_getElem q]
        exact List.getElem_mem q
      have em : onTo d s (c.1.getD k END) = mind d.memory (c.1.take (k + 1)) := by
        unfold onTo
        rw [take_snoc rfl ha, ← e, mind_mind]
      have hs : onTo d s (c.1.getD k END) ∈ states d := mem_states.mpr ⟨c, hc, k + 1, q, em⟩
      have := (rank_spec hs).2 (c.1.length - (k + 1) + 1) (mem_ranks.mpr ⟨c, hc, k + 1, q, em.symm, rfl⟩)
      omega
  · refine .inl ((fromTo_pos o).mpr ⟨c, hc, k, hk, e, ?_⟩)
    rw [List.getD_eq_getElem?_getD, List.getElem?_eq_none (by omega)]
    rfl

/-! ### how much altogether -/
theorem flat_ws (l : List Case) (f : Case → List Stp) (B : Nat) (p : Stp → Bool) (h : ∀ c ∈ l, ws (f c) p ≤ B) : ws (l.flatMap f) p ≤ l.length * B := by
  induction l with
  | nil => rw [List.flatMap_nil, ws_nil]; exact Nat.zero_le _
  | cons c r ih =>
    rw [List.flatMap_cons, ws_append, List.length_cons, Nat.succ_mul]
    have h1 := ih fun x hx => h x (List.mem_cons_of_mem _ hx)
    have h2 := h c (List.mem_cons_self ..)
    omega
theorem ws_const {l : List Stp} {B : Nat} {p : Stp → Bool} (h : ∀ x ∈ l, x.2.2 ≤ B) : ws l p ≤ l.length * B := by
  induction l with
  | nil => rw [ws_nil]; exact Nat.zero_le _
  | cons c r ih =>
    rw [ws_cons, List.length_cons, Nat.succ_mul]
    have h1 := ih fun x hx => h x (List.mem_cons_of_mem _ hx)
    have h2 := h c (List.mem_cons_self ..)
    split <;> omega
theorem total_le {d : Desk} (o : DeskOk d) (p : Stp → Bool) : ws (steps d) p ≤ 14400 := by
  have h := flat_ws d.cases (fun c => (List.range (c.1.length + 1)).map fun k => (mind d.memory (c.1.take k), c.1.getD k END, c.2)) 900 p fun c hc => by
    have h1 : ws ((List.range (c.1.length + 1)).map fun k => (mind d.memory (c.1.take k), c.1.getD k END, c.2)) p ≤ _ * 100 := ws_const fun x hx => by
      obtain ⟨k, _, rfl⟩ := List.mem_map.mp hx
      exact (o.often c hc).2
    rw [List.length_map, List.length_range] at h1
    have := o.len c hc
    have h2 : (c.1.length + 1) * 100 ≤ 9 * 100 := Nat.mul_le_mul_right _ (by omega)
    omega
  have h3 : d.cases.length * 900 ≤ 16 * 900 := Nat.mul_le_mul_right _ o.many
  have e : steps d = d.cases.flatMap fun c => (List.range (c.1.length + 1)).map fun k => (mind d.memory (c.1.take k), c.1.getD k END, c.2) := rfl
  rw [← e] at h
  omega
theorem from_le {d : Desk} (o : DeskOk d) (s : List Nat) : from_ d s ≤ 14400 := by
  rw [from_eq]
  exact total_le o _
theorem from_two {d : Desk} (o : DeskOk d) {s t : List Nat} (h : s ≠ t) : from_ d s + from_ d t ≤ 14400 := by
  rw [from_eq, from_eq]
  refine Nat.le_trans (ws_two (r := fun _ => true) (fun x _ h1 h2 => h ((beq_iff_eq.mp h1).symm.trans (beq_iff_eq.mp h2))) (fun _ _ _ => rfl) (fun _ _ _ => rfl)) (total_le o _)
theorem fromTo_le {d : Desk} (o : DeskOk d) (s : List Nat) (a : Nat) : fromTo d s a ≤ from_ d s := by
  rw [from_eq, fromTo_eq]
  refine ws_le fun x _ h => ?_
  rw [Bool.and_eq_true] at h
  exact h.1
theorem steps_len {d : Desk} (o : DeskOk d) : (steps d).length ≤ 144 := by
  have h : ∀ l : List Case, (∀ c ∈ l, c.1.length ≤ 8) → (l.flatMap fun c => (List.range (c.1.length + 1)).map fun k => (mind d.memory (c.1.take k), c.1.getD k END, c.2)).length ≤ l.length * 9 := by
    intro l
    induction l with
    | nil => intro _; exact Nat.zero_le _
    | cons c r ih =>
      intro h
      rw [List.flatMap_cons, List.length_append, List.length_map, List.length_range, List.length_cons, Nat.succ_mul]
      have h1 := ih fun x hx => h x (List.mem_cons_of_mem _ hx)
      have h2 := h c (List.mem_cons_self ..)
      omega
  have h1 : (steps d).length ≤ d.cases.length * 9 := h d.cases o.len
  have h3 : d.cases.length * 9 ≤ 16 * 9 := Nat.mul_le_mul_right _ o.many
  omega
theorem states_len {d : Desk} (o : DeskOk d) : (states d).length ≤ 144 := by
  rw [states_dd]
  have h := dd_len (acc := []) (l := (steps d).map fun x => x.1)
  rw [List.length_map] at h
  have := steps_len o
  have e : ([] : List (List Nat)).length = 0 := rfl
  omega

/-! ### memory 0, 1, 2 -/
theorem mind1_cases (p : List Nat) (hp : ∀ a ∈ p, a < 10) : mind 1 p = [] ∨ ∃ a, a < 10 ∧ mind 1 p = [a] := by
  unfold mind
  rw [if_neg (by decide), if_pos rfl]
  cases e : p.getLast? with
  | none => exact .inl rfl
  | some a => exact .inr ⟨a, hp a (List.mem_of_getLast? e), rfl⟩
theorem mem_take_act {d : Desk} (o : DeskOk d) {c : Case} (hc : c ∈ d.cases) (k : Nat) : ∀ a ∈ c.1.take k, a < 10 := fun a ha => o.act c hc a (List.mem_of_mem_take ha)
theorem states_few {d : Desk} (o : DeskOk d) (hm : d.memory ≠ 2) : (states d).length ≤ 11 := by
  have sub : states d ⊆ [] :: (List.range 10).map fun a => [a] := fun s hs => by
    obtain ⟨c, hc, k, hk, rfl⟩ := mem_states.mp hs
    have := o.mem
    by_cases h0 : d.memory = 0
    · rw [h0]
      exact List.mem_cons_self ..
    · have h1 : d.memory = 1 := by omega
      rw [h1]
      rcases mind1_cases (c.1.take k) (mem_take_act o hc k) with e | ⟨a, ha, e⟩
      · rw [e]
        exact List.mem_cons_self ..
      · rw [e]
        exact List.mem_cons_of_mem _ (List.mem_map.mpr ⟨a, List.mem_range.mpr ha, rfl⟩)
  exact List.Nodup.length_le_of_subset (states_nodup d) sub
/-- the first is the beginning's -/
theorem states_first (d : Desk) (h : d.cases ≠ []) : ∃ t, states d = [] :: t := by
  cases e : d.cases with
  | nil => exact absurd e h
  | cons c r =>
    have es : (steps d).map (fun x => x.1) = [] :: (((List.range c.1.length).map fun k => mind d.memory (c.1.take (k + 1))) ++ (r.flatMap fun c => (List.range (c.1.length + 1)).map fun k => ((mind d.memory (c.1.take k), c.1.getD k END, c.2) : Stp)).map fun x => x.1) := by
      unfold steps
      rw [e, List.flatMap_cons, List.map_append, List.range_succ_eq_map, List.map_cons, List.map_cons, List.take_zero, mind_nil, List.map_map, List.map_map, List.cons_append]
      rfl
    rw [states_dd, es, dd_cons]
    have e0 : (if ([] : List (List Nat)).contains [] then ([] : List (List Nat)) else [] ++ [[]]) = [[]] := rfl
    rw [e0]
    obtain ⟨t, et⟩ := dd_prefix (acc := [[]]) (l := ((List.range c.1.length).map fun k => mind d.memory (c.1.take (k + 1))) ++ (r.flatMap fun c => (List.range (c.1.length + 1)).map fun k => ((mind d.memory (c.1.take k), c.1.getD k END, c.2) : Stp)).map fun x => x.1)
    exact ⟨t, et⟩
theorem onTo_ne_nil {d : Desk} (hm : d.memory ≠ 0) (s : List Nat) (a : Nat) : onTo d s a ≠ [] := by
  unfold onTo mind
  rw [if_neg hm]
  split
  · rw [List.getLast?_concat]
    exact List.cons_ne_nil _ _
  · intro z
    exact List.cons_ne_nil _ _ (List.append_eq_nil_iff.mp z).2
theorem states_zero {d : Desk} (hm : d.memory = 0) : (states d).length ≤ 1 := by
  have sub : states d ⊆ [[]] := fun s hs => by
    obtain ⟨c, hc, k, hk, rfl⟩ := mem_states.mp hs
    rw [hm]
    exact List.mem_cons_self ..
  exact List.Nodup.length_le_of_subset (states_nodup d) sub
theorem mind_two {p : List Nat} : mind 2 p = p := by
  unfold mind
  rw [if_neg (by decide), if_neg (by decide)]
/-- by memory 2 an act's weight is that of what is remembered behind it -/
theorem tree {d : Desk} (hm : d.memory = 2) {s : List Nat} {a : Nat} (ha : a < 10) : from_ d (s ++ [a]) = fromTo d s a := by
  rw [from_eq, fromTo_eq]
  unfold steps
  rw [hm]
  have one : ∀ (r : List Nat) (w : Nat), ws ((List.range (r.length + 1)).map fun k => (mind 2 (r.take k), r.getD k END, w)) (fun x => x.1 == s ++ [a]) = ws ((List.range (r.length + 1)).map fun k => (mind 2 (r.take k), r.getD k END, w)) (fun x => x.1 == s && x.2.1 == a) := by
    intro r w
    -- by the places: k + 1 there, k here
    have gen : ∀ n, n ≤ r.length → ws ((List.range (n + 1)).map fun k => (mind 2 (r.take k), r.getD k END, w)) (fun x => x.1 == s ++ [a]) = ws ((List.range n).map fun k => (mind 2 (r.take k), r.getD k END, w)) (fun x => x.1 == s && x.2.1 == a) := by
      intro n
      induction n with
      | zero =>
        intro _
        show ws [(mind 2 (r.take 0), r.getD 0 END, w)] _ = ws [] _
        rw [ws_cons, ws_nil, ws_nil, if_neg]
        intro z
        have z := beq_iff_eq.mp z
        rw [List.take_zero, mind_nil] at z
        exact List.cons_ne_nil _ _ (List.append_eq_nil_iff.mp z.symm).2
      | succ n ih =>
        intro hn
        rw [List.range_succ, List.map_append, ws_append, ih (by omega), List.range_succ, List.map_append, ws_append]
        congr 1
        show ws [(mind 2 (r.take (n + 1)), r.getD (n + 1) END, w)] _ = ws [(mind 2 (r.take n), r.getD n END, w)] _
        rw [ws_cons, ws_cons, ws_nil, ws_nil, mind_two, mind_two]
        have hg : n < r.length := by omega
        have ht : r.take (n + 1) = r.take n ++ [r[n]] := (List.take_append_getElem hg).symm
        have hd : r.getD n END = r[n] := by rw [List.getD_eq_getElem?_getD, List.getElem?_eq_getElem hg] <;> rfl
        have eq : ((r.take (n + 1) == s ++ [a]) = true) = ((r.take n == s && r.getD n END == a) = true) := by
          rw [Bool.and_eq_true, beq_iff_eq, beq_iff_eq, beq_iff_eq, ht, hd]
          apply propext
          constructor
          · intro z
            exact ⟨(List.append_inj' z rfl).1, List.head_eq_of_cons_eq (List.append_inj' z rfl).2⟩
          · rintro ⟨z1, z2⟩
            rw [z1, z2]
        simp only [eq]
    have last : ws ((List.range (r.length + 1)).map fun k => (mind 2 (r.take k), r.getD k END, w)) (fun x => x.1 == s && x.2.1 == a) = ws ((List.range r.length).map fun k => (mind 2 (r.take k), r.getD k END, w)) (fun x => x.1 == s && x.2.1 == a) := by
      rw [List.range_succ, List.map_append, ws_append]
      show _ + ws [(mind 2 (r.take r.length), r.getD r.length END, w)] _ = _
      have ng : ¬ ((mind 2 (r.take r.length) == s && r.getD r.length END == a) = true) := fun z => by
        rw [Bool.and_eq_true] at z
        have z := beq_iff_eq.mp z.2
        have := getD_lt z ha
        omega
      rw [ws_cons, ws_nil, if_neg ng]
      rfl
    rw [last]
    exact gen r.length (Nat.le_refl _)
  induction d.cases with
  | nil => rfl
  | cons c r ih => rw [List.flatMap_cons, ws_append, ws_append, ih, one]
end CN
/-! The equations of a desk. -/
namespace CN
open Km522

theorem S_swap (n m : Nat) (f : Nat → Nat → Rat) : S n (fun j => S m (fun a => f j a)) = S m (fun a => S n (fun j => f j a)) := by
  induction n with
  | zero => exact (S_zero m).symm
  | succ n ih =>
    show S n _ + S m _ = S m (fun a => S n (fun j => f j a) + f n a)
    rw [ih, S_add]
theorem S_sub (n : Nat) (f g : Nat → Rat) : S n (fun i => f i - g i) = S n f - S n g := by
  have e : (fun i => f i - g i) = fun i => f i + (-1) * g i := by funext i; grind
  rw [e, S_add, S_mul]
  grind
theorem S_cast (n : Nat) (f : Nat → Nat) : ((SN n f : Nat) : Rat) = S n (fun i => (f i : Rat)) := by
  induction n with
  | zero => rfl
  | succ n ih =>
    show ((SN n f + f n : Nat) : Rat) = S n _ + _
    rw [Rat.natCast_add, ih]
theorem S_extra {n k : Nat} {f t : Nat → Rat} {e : Rat} (hk : k < n) (h : ∀ i, i < n → f i ≤ t i) (hx : f k + e ≤ t k) : S n f + e ≤ S n t := by
  induction n with
  | zero => omega
  | succ n ih =>
    show S n f + f n + e ≤ S n t + t n
    by_cases c : k = n
    · subst c
      have := S_le (f := f) (g := t) (n := k) fun i hi => h i (by omega)
      grind
    · have h1 := ih (by omega) fun i hi => h i (by omega)
      have h2 := h n (by omega)
      grind

section
variable (d : Desk)
abbrev nst : Nat := (states d).length
def st (i : Nat) : List Nat := (states d).getD i []
def wt (i a : Nat) : Nat := fromTo d (st d i) a
def tot (i : Nat) : Nat := from_ d (st d i)
def nxt (i a : Nat) : Nat := (states d).findIdx fun t => t == onTo d (st d i) a
def live (h : Nat → Bool) (i a : Nat) : Bool := !h a && decide (0 < wt d i a)
def sys (h : Nat → Bool) (g : List Nat → Nat) : Mat := fun i j =>
  if j = nst d then (g (st d i) : Rat) else (if i = j then (tot d i : Rat) else 0) - S 10 (fun a => if (live d h i a && nxt d i a == j) = true then (wt d i a : Rat) else 0)
end
section
variable {d : Desk} {h : Nat → Bool} {g : List Nat → Nat}
theorem st_mem {i : Nat} (hi : i < nst d) : st d i ∈ states d := by
  unfold st
  rw [List.getD_eq_getElem?_getD, List.getElem?_eq_getElem hi]
  exact List.getElem_mem hi
theorem st_find {s : List Nat} (hs : s ∈ states d) : st d ((states d).findIdx fun t => t == s) = s := by
  have hl : (states d).findIdx (fun t => t == s) < (states d).length := List.findIdx_lt_length.mpr ⟨s, hs, beq_self_eq_true s⟩
  unfold st
  rw [List.getD_eq_getElem?_getD, List.getElem?_eq_getElem hl]
  exact beq_iff_eq.mp (List.findIdx_getElem (w := hl))
theorem find_lt {s : List Nat} (hs : s ∈ states d) : (states d).findIdx (fun t => t == s) < nst d := List.findIdx_lt_length.mpr ⟨s, hs, beq_self_eq_true s⟩
theorem st_inj {i j : Nat} (hi : i < nst d) (hj : j < nst d) (e : st d i = st d j) : i = j := by
  unfold st at e
  rw [List.getD_eq_getElem?_getD, List.getElem?_eq_getElem hi, List.getD_eq_getElem?_getD, List.getElem?_eq_getElem hj] at e
  exact (List.getElem_inj (states_nodup d)).mp e
theorem find_st {i : Nat} (hi : i < nst d) : (states d).findIdx (fun t => t == st d i) = i := st_inj (find_lt (st_mem hi)) hi (st_find (st_mem hi))
theorem tot_pos (o : DeskOk d) {i : Nat} (hi : i < nst d) : 0 < tot d i := (from_pos o).mpr (st_mem hi)
theorem nxt_lt (o : DeskOk d) {i a : Nat} (ha : a < 10) (hw : 0 < wt d i a) : nxt d i a < nst d := find_lt (onTo_mem o ha hw)
theorem live_pos {i a : Nat} (l : live d h i a = true) : 0 < wt d i a := by
  unfold live at l
  rw [Bool.and_eq_true] at l
  exact of_decide_eq_true l.2
theorem tot_split (o : DeskOk d) (i : Nat) : (tot d i : Rat) = S 10 (fun a => (wt d i a : Rat)) + (wt d i 10 : Rat) := by
  have e : tot d i = SN 11 (fun a => wt d i a) := from_split o (st d i)
  rw [e, S_cast]
  rfl
theorem sys_lin (o : DeskOk d) (y : Nat → Rat) {i : Nat} (hi : i < nst d) : S (nst d) (fun j => sys d h g i j * y j) = (tot d i : Rat) * y i - S 10 (fun a => if live d h i a = true then (wt d i a : Rat) * y (nxt d i a) else 0) := by
  have e1 : S (nst d) (fun j => sys d h g i j * y j) = S (nst d) (fun j => (if i = j then (tot d i : Rat) * y j else 0) - S 10 (fun a => if (live d h i a && nxt d i a == j) = true then (wt d i a : Rat) * y j else 0)) := by
    refine S_congr fun j hj => ?_
    unfold sys
    rw [if_neg (by omega)]
    have e2 : S 10 (fun a => if (live d h i a && nxt d i a == j) = true then (wt d i a : Rat) * y j else 0) = y j * S 10 (fun a => if (live d h i a && nxt d i a == j) = true then (wt d i a : Rat) else 0) := by
      rw [← S_mul]
      refine S_congr fun a _ => ?_
      by_cases c : (live d h i a && nxt d i a == j) = true
      · rw [if_pos c, if_pos c]
        grind
      · rw [if_neg c, if_neg c]
        grind
    rw [e2]
    by_cases c : i = j
    · rw [if_pos c, if_pos c]
      grind
    · rw [if_neg c, if_neg c]
      grind
  rw [e1, S_sub, S_swap]
  congr 1
  · rw [S_one hi fun j hj hn => if_neg (Ne.symm hn), if_pos rfl]
  · refine S_congr fun a ha => ?_
    by_cases c : live d h i a = true
    · rw [if_pos c]
      have hl := nxt_lt o (by omega : a < 10) (live_pos c)
      rw [S_one hl fun j hj hn => if_neg fun z => ?_, if_pos]
      · rw [c, beq_self_eq_true]
        rfl
      · rw [Bool.and_eq_true] at z
        exact hn (beq_iff_eq.mp z.2).symm
    · rw [if_neg c]
      rw [S_congr (g := fun _ => 0) fun j hj => if_neg fun z => ?_, S_zero]
      rw [Bool.and_eq_true] at z
      exact c z.1
end

/-! ### the vector -/
def qq : Nat := 14401
def gv (d : Desk) (i : Nat) : Nat := qq ^ (9 - rank d (st d i))
def vv (d : Desk) (i : Nat) : Rat := ((qq ^ 9 : Nat) : Rat) - (gv d i : Rat)
section
variable {d : Desk} {h : Nat → Bool} {g : List Nat → Nat}
theorem gv_pos (i : Nat) : 1 ≤ gv d i := Nat.pow_pos (by decide)
theorem gv_top (o : DeskOk d) {i : Nat} (hi : i < nst d) : qq * gv d i ≤ qq ^ 9 := by
  have := rank_bd o (st_mem hi)
  unfold gv
  rw [← Nat.pow_succ']
  exact Nat.pow_le_pow_right (by decide) (by omega)
theorem gv_next {i j : Nat} (hr : rank d (st d j) < rank d (st d i)) (hb : rank d (st d i) ≤ 9) : qq * gv d i ≤ gv d j := by
  unfold gv
  rw [← Nat.pow_succ']
  exact Nat.pow_le_pow_right (by decide) (by omega)
theorem rle {a b : Nat} (h : a ≤ b) : (a : Rat) ≤ (b : Rat) := Rat.natCast_le_natCast.mpr h
theorem vv_bd (o : DeskOk d) {i : Nat} (hi : i < nst d) : (gv d i : Rat) * ((qq : Rat) - 1) ≤ vv d i ∧ 0 < vv d i := by
  have h1 := rle (gv_top o hi)
  rw [Rat.natCast_mul] at h1
  have h2 : ((1 : Nat) : Rat) ≤ (gv d i : Rat) := rle (gv_pos i)
  have h3 : (qq : Rat) = 14401 := rfl
  have h4 : ((1 : Nat) : Rat) = 1 := rfl
  unfold vv
  rw [h3] at h1 ⊢
  rw [h4] at h2
  generalize ((qq ^ 9 : Nat) : Rat) = T at *
  generalize (gv d i : Rat) = G at *
  constructor <;> grind
theorem mul_le_of {a b c : Rat} (h : a ≤ b) (hc : 0 ≤ c) : c * a ≤ c * b := Rat.mul_le_mul_of_nonneg_left h hc
theorem sys_av (o : DeskOk d) {i : Nat} (hi : i < nst d) : 1 ≤ S (nst d) (fun j => sys d h g i j * vv d j) := by
  rw [sys_lin o _ hi, tot_split o]
  have hG : ((1 : Nat) : Rat) ≤ (gv d i : Rat) := rle (gv_pos i)
  have h1 : ((1 : Nat) : Rat) = 1 := rfl
  rw [h1] at hG
  obtain ⟨hv1, hv0⟩ := vv_bd o hi
  have hW : (tot d i : Rat) ≤ 14400 := by
    have := rle (from_le o (st d i))
    exact this
  have hq : (qq : Rat) = 14401 := rfl
  rw [hq] at hv1
  -- the terms
  have term : ∀ a, a < 10 → (-(gv d i : Rat)) * (wt d i a : Rat) ≤ vv d i * (wt d i a : Rat) - (if live d h i a = true then (wt d i a : Rat) * vv d (nxt d i a) else 0) := fun a ha => by
    have w0 : 0 ≤ (wt d i a : Rat) := Rat.natCast_nonneg
    by_cases c : live d h i a = true
    · rw [if_pos c]
      have g0 : 0 ≤ (gv d (nxt d i a) : Rat) := Rat.natCast_nonneg
      have := Rat.mul_nonneg w0 g0
      unfold vv
      grind
    · rw [if_neg c]
      have := Rat.mul_nonneg w0 (by grind : 0 ≤ vv d i)
      have := Rat.mul_nonneg w0 (by grind : 0 ≤ (gv d i : Rat))
      grind
  have comb : ((S 10 fun a => (wt d i a : Rat)) + (wt d i 10 : Rat)) * vv d i - S 10 (fun a => if live d h i a = true then (wt d i a : Rat) * vv d (nxt d i a) else 0) =
      S 10 (fun a => vv d i * (wt d i a : Rat) - (if live d h i a = true then (wt d i a : Rat) * vv d (nxt d i a) else 0)) + vv d i * (wt d i 10 : Rat) := by
    rw [S_sub, S_mul]
    grind
  rw [comb]
  have low : S 10 (fun a => (-(gv d i : Rat)) * (wt d i a : Rat)) = (-(gv d i : Rat)) * ((tot d i : Rat) - (wt d i 10 : Rat)) := by
    rw [S_mul, tot_split o]
    grind
  have fin : ∀ u : Rat, 1 ≤ u → 1 ≤ (-(gv d i : Rat)) * (tot d i : Rat) + (gv d i : Rat) * 14401 * u := fun u hu => by
    have e1 := mul_le_of hW (by grind : 0 ≤ (gv d i : Rat))
    have e2 := mul_le_of hu (by grind : 0 ≤ (gv d i : Rat) * 14401)
    grind
  have w10 : 0 ≤ (wt d i 10 : Rat) := Rat.natCast_nonneg
  rcases rank_next o (st_mem hi) with c | ⟨a, ha, hw, hr⟩
  · have u1 : (1 : Rat) ≤ (wt d i 10 : Rat) := rle c
    have s1 := S_le term
    rw [low] at s1
    have f := fin _ u1
    have e := mul_le_of hv1 w10
    grind
  · have u1 : (1 : Rat) ≤ (wt d i a : Rat) := rle hw
    have s1 := S_extra (e := (gv d i : Rat) * 14401 * (wt d i a : Rat)) ha term (by
      have w0 : 0 ≤ (wt d i a : Rat) := Rat.natCast_nonneg
      by_cases c : live d h i a = true
      · rw [if_pos c]
        have hl := nxt_lt o ha hw
        have en : st d (nxt d i a) = onTo d (st d i) a := st_find (onTo_mem o ha hw)
        have g1 := rle (gv_next (d := d) (i := i) (j := nxt d i a) (by rw [en]; exact hr) (rank_bd o (st_mem hi)).2)
        rw [Rat.natCast_mul, hq] at g1
        have g2 := mul_le_of g1 w0
        unfold vv
        grind
      · rw [if_neg c]
        have e := mul_le_of hv1 w0
        grind)
    rw [low] at s1
    have f := fin _ u1
    have e := Rat.mul_nonneg w10 (by grind : 0 ≤ vv d i)
    have e2 := Rat.mul_nonneg w10 (by grind : 0 ≤ (gv d i : Rat))
    grind
theorem sys_MM (o : DeskOk d) : MM (nst d) (vv d) (sys d h g) where
  off := fun i j hi hj hn => by
    unfold sys
    rw [if_neg (by omega), if_neg hn]
    have : 0 ≤ S 10 (fun a => if (live d h i a && nxt d i a == j) = true then (wt d i a : Rat) else 0) := S_nonneg fun a _ => by
      split
      · exact Rat.natCast_nonneg
      · exact Rat.le_refl
    grind
  vp := fun i hi => (vv_bd o hi).2
  av := fun i hi => by
    have := sys_av (h := h) (g := g) o hi
    grind
  rhs := fun i hi => by
    unfold sys
    rw [if_pos rfl]
    exact Rat.natCast_nonneg
theorem sys_l1 (o : DeskOk d) : ∀ i, i < nst d → 0 ≤ S (nst d) (fun j => sys d h g i j * 1) + sys d h g i (nst d) * 0 := fun i hi => by
  rw [sys_lin o (fun _ => 1) hi, tot_split o]
  have : S 10 (fun a => if live d h i a = true then (wt d i a : Rat) * 1 else 0) ≤ S 10 (fun a => (wt d i a : Rat)) := S_le fun a _ => by
    have w0 : 0 ≤ (wt d i a : Rat) := Rat.natCast_nonneg
    split <;> grind
  have w10 : 0 ≤ (wt d i 10 : Rat) := Rat.natCast_nonneg
  grind
theorem sys_l2 (o : DeskOk d) (hg : ∀ s ∈ states d, g s ≤ 14400) : ∀ i, i < nst d → 0 ≤ S (nst d) (fun j => sys d h g i j * (14400 * vv d j)) + sys d h g i (nst d) * (-1) := fun i hi => by
  have e : S (nst d) (fun j => sys d h g i j * (14400 * vv d j)) = 14400 * S (nst d) (fun j => sys d h g i j * vv d j) := by
    rw [← S_mul]
    exact S_congr fun j _ => by grind
  have a := sys_av (h := h) (g := g) o hi
  have r : sys d h g i (nst d) = (g (st d i) : Rat) := by
    unfold sys
    exact if_pos rfl
  have q : (g (st d i) : Rat) ≤ 14400 := rle (hg _ (st_mem hi))
  rw [e, r]
  grind
def VB : Int := 14400 * 14401 ^ 9
theorem vv_le (i : Nat) : (14400 : Rat) * vv d i ≤ (VB : Rat) := by
  have h0 : 0 ≤ (gv d i : Rat) := Rat.natCast_nonneg
  have e : (VB : Rat) = 14400 * ((qq ^ 9 : Nat) : Rat) := by
    have e1 : VB = ((14400 * qq ^ 9 : Nat) : Int) := by decide
    rw [e1, Rat.intCast_natCast, Rat.natCast_mul]
    rfl
  rw [e]
  unfold vv
  grind
end
end CN
set_option exponentiation.threshold 20000
/-! The program's equations: their rows, and that they are solved within the sizes. -/
namespace CN
open Km522

def eqStep (d : Desk) (last i : Nat) (row : List Int) (a : Nat) : List Int := if 0 < wt d i a ∧ a ≠ last then row.set (nxt d i a) (row.getD (nxt d i a) 0 - (wt d i a : Int)) else row
def eqStart (d : Desk) (gain : Int) (i : Nat) : List Int := (List.replicate (nst d) 0 ++ [gain]).set i (tot d i : Int)
def eqFold (d : Desk) (last : Nat) (gain : Int) (i m : Nat) : List Int := (List.range m).foldl (eqStep d last i) (eqStart d gain i)
def eqRow (d : Desk) (last : Nat) (gain : Int) (i : Nat) : List Int := eqFold d last gain i 10
def eqRows (d : Desk) (last : Nat) (g : List Nat → Nat) : List (List Int) := (List.range (nst d)).map fun i => eqRow d last (g (st d i) : Int) i
abbrev halt (last : Nat) : Nat → Bool := fun a => a == last

theorem getD_set {α : Type} {l : List α} {i j : Nat} {x e : α} (hi : i < l.length) : (l.set i x).getD j e = if j = i then x else l.getD j e := by
  rw [List.getD_eq_getElem?_getD, List.getElem?_set, List.getD_eq_getElem?_getD]
  by_cases c : j = i
  · subst c
    rw [if_pos rfl, if_pos hi, if_pos rfl]
    rfl
  · rw [if_neg (Ne.symm c), if_neg c]
section
variable {d : Desk} {last : Nat} {gain : Int} {i : Nat}
theorem eqStart_len : (eqStart d gain i).length = nst d + 1 := by
  unfold eqStart
  rw [List.length_set, List.length_append, List.length_replicate, List.length_singleton]
theorem eqStep_len {row : List Int} (a : Nat) : (eqStep d last i row a).length = row.length := by
  unfold eqStep
  split
  · rw [List.length_set]
  · rfl
theorem eqFold_succ (m : Nat) : eqFold d last gain i (m + 1) = eqStep d last i (eqFold d last gain i m) m := by
  unfold eqFold
  rw [List.range_succ, List.foldl_append]
  rfl
theorem eqFold_len : ∀ m, (eqFold d last gain i m).length = nst d + 1
  | 0 => eqStart_len
  | m + 1 => by rw [eqFold_succ, eqStep_len, eqFold_len m]
theorem eqStart_get (hi : i < nst d) {j : Nat} (hj : j ≤ nst d) : (eqStart d gain i).getD j 0 = if j = nst d then gain else if i = j then (tot d i : Int) else 0 := by
  unfold eqStart
  rw [getD_set (by rw [List.length_append, List.length_replicate]; omega)]
  by_cases c : j = i
  · rw [if_pos c, if_neg (by omega), if_pos c.symm]
  · rw [if_neg c, if_neg (c := i = j) (Ne.symm c), List.getD_eq_getElem?_getD]
    by_cases e : j = nst d
    · rw [if_pos e, List.getElem?_append_right (by rw [List.length_replicate]; omega), List.length_replicate, e, Nat.sub_self]
      rfl
    · rw [if_neg e, List.getElem?_append_left (by rw [List.length_replicate]; omega), List.getElem?_replicate, if_pos (by omega)]
      rfl
theorem live_iff {a : Nat} : live d (halt last) i a = true ↔ 0 < wt d i a ∧ a ≠ last := by
  unfold live halt
  rw [Bool.and_eq_true, decide_eq_true_iff, Bool.not_eq_true', beq_eq_false_iff_ne]
  exact ⟨fun ⟨p, q⟩ => ⟨q, p⟩, fun ⟨p, q⟩ => ⟨q, p⟩⟩
theorem eqFold_get (o : DeskOk d) (hi : i < nst d) {j : Nat} (hj : j ≤ nst d) : ∀ {m : Nat}, m ≤ 10 → (((eqFold d last gain i m).getD j 0 : Int) : Rat) =
    (if j = nst d then (gain : Rat) else if i = j then (tot d i : Rat) else 0) - S m (fun a => if (live d (halt last) i a && nxt d i a == j) = true then (wt d i a : Rat) else 0)
  | 0, _ => by
    show (((eqStart d gain i).getD j 0 : Int) : Rat) = _ - 0
    rw [eqStart_get hi hj]
    by_cases c : j = nst d
    · rw [if_pos c, if_pos c]
      grind
    · rw [if_neg c, if_neg c]
      by_cases e : i = j
      · rw [if_pos e, if_pos e, Rat.intCast_natCast]
        grind
      · rw [if_neg e, if_neg e, Rat.intCast_zero]
        grind
  | m + 1, hm => by
    have ih := eqFold_get o hi hj (m := m) (by omega)
    rw [eqFold_succ]
    unfold eqStep
    show _ = _ - (S m _ + (if (live d (halt last) i m && nxt d i m == j) = true then (wt d i m : Rat) else 0))
    by_cases c : 0 < wt d i m ∧ m ≠ last
    · rw [if_pos c, live_iff.mpr c, Bool.true_and, getD_set (by rw [eqFold_len]; have := nxt_lt o (by omega : m < 10) c.1; omega)]
      by_cases e : j = nxt d i m
      · rw [if_pos e, if_pos (beq_iff_eq.mpr e.symm), ← e, Rat.intCast_sub, ih, Rat.intCast_natCast]
        grind
      · rw [if_neg e, if_neg (fun z => e (beq_iff_eq.mp z).symm), ih]
        grind
    · have ng : ¬ ((live d (halt last) i m && nxt d i m == j) = true) := fun z => by
        rw [Bool.and_eq_true] at z
        exact c (live_iff.mp z.1)
      rw [if_neg c, if_neg ng, ih, Rat.add_zero]
end
section
variable {d : Desk} {last : Nat} {g : List Nat → Nat}
theorem eqRows_shape : Shape (nst d) (eqRows d last g) := by
  refine ⟨by unfold eqRows; rw [List.length_map, List.length_range], fun r hr => ?_⟩
  obtain ⟨i, _, rfl⟩ := List.mem_map.mp hr
  exact eqFold_len 10
theorem eqRows_row {i : Nat} (hi : i < nst d) : (eqRows d last g).getD i [] = eqRow d last (g (st d i) : Int) i := by
  unfold eqRows
  rw [List.getD_eq_getElem?_getD, List.getElem?_map, List.getElem?_range hi]
  rfl
theorem eqRows_mat (o : DeskOk d) {i j : Nat} (hi : i < nst d) (hj : j ≤ nst d) : matR (eqRows d last g) i j = sys d (halt last) g i j := by
  show (((eqRows d last g).getD i []).getD j 0 : Rat) = _
  rw [eqRows_row hi]
  unfold eqRow
  rw [eqFold_get o hi hj (Nat.le_refl 10)]
  unfold sys
  by_cases c : j = nst d
  · rw [if_pos c, if_pos c, Rat.intCast_natCast]
    rw [S_congr (g := fun _ => 0) fun a ha => if_neg fun z => ?_, S_zero]
    · grind
    · rw [Bool.and_eq_true] at z
      have h1 := nxt_lt o (by omega : a < 10) (live_pos z.1)
      have h2 := beq_iff_eq.mp z.2
      omega
  · rw [if_neg c, if_neg c]
theorem MM.congr {n : Nat} {v : Nat → Rat} {A B : Mat} (h : MM n v A) (e : ∀ i j, i < n → j ≤ n → B i j = A i j) : MM n v B where
  off := fun i j hi hj hn => by rw [e i j hi (by omega)]; exact h.off i j hi hj hn
  vp := h.vp
  av := fun i hi => by
    rw [S_congr fun j hj => by rw [e i j hi (by omega)]]
    exact h.av i hi
  rhs := fun i hi => by rw [e i n hi (Nat.le_refl n)]; exact h.rhs i hi
theorem eqRows_MM (o : DeskOk d) : MM (nst d) (vv d) (matR (eqRows d last g)) := (sys_MM o).congr fun _ _ hi hj => eqRows_mat o hi hj
theorem lf_congr {n : Nat} {A B : Mat} {y : Nat → Rat} {z : Rat} (e : ∀ i j, i < n → j ≤ n → B i j = A i j) (h : ∀ i, i < n → 0 ≤ S n (fun j => A i j * y j) + A i n * z) : ∀ i, i < n → 0 ≤ S n (fun j => B i j * y j) + B i n * z := fun i hi => by
  rw [S_congr fun j hj => by rw [e i j hi (by omega)], e i n hi (Nat.le_refl n)]
  exact h i hi
/-- a row's own number -/
theorem ent_le (o : DeskOk d) {i : Nat} (hi : i < nst d) : ent (eqRows d last g) i i ≤ (tot d i : Int) := by
  have e := eqRows_mat (last := last) (g := g) o hi (j := i) (by omega)
  unfold sys at e
  rw [if_neg (by omega), if_pos rfl] at e
  have : 0 ≤ S 10 (fun a => if (live d (halt last) i a && nxt d i a == i) = true then (wt d i a : Rat) else 0) := S_nonneg fun a _ => by
    split
    · exact Rat.natCast_nonneg
    · exact Rat.le_refl
  have q : ((ent (eqRows d last g) i i : Int) : Rat) ≤ ((tot d i : Int) : Rat) := by
    rw [Rat.intCast_natCast]
    show matR (eqRows d last g) i i ≤ _
    grind
  exact Rat.intCast_le_intCast.mp q
theorem tot_le (o : DeskOk d) (i : Nat) : (tot d i : Int) ≤ 14400 := by
  have := from_le o (st d i)
  unfold tot
  omega
/-! ### memory 2 -/
theorem nxt_tree (o : DeskOk d) (hm : d.memory = 2) {i a : Nat} (ha : a < 10) (hw : 0 < wt d i a) : st d (nxt d i a) = st d i ++ [a] ∧ tot d (nxt d i a) = wt d i a := by
  have e : st d (nxt d i a) = onTo d (st d i) a := st_find (onTo_mem o ha hw)
  have e2 : onTo d (st d i) a = st d i ++ [a] := by
    unfold onTo
    rw [hm, mind_two]
  refine ⟨e.trans e2, ?_⟩
  unfold tot wt
  rw [e, e2, tree hm ha]
theorem tree_mult (o : DeskOk d) (hm : d.memory = 2) {i : Nat} (hi : i < nst d) : Mult (nst d) (fun j => (tot d j : Int)) (eqRows d last g) i := by
  refine ⟨1, by decide, ?_, fun j hj => ?_⟩
  · have e := eqRows_mat (last := last) (g := g) o hi (j := i) (by omega)
    unfold sys at e
    rw [if_neg (by omega), if_pos rfl, S_congr (g := fun _ => 0) fun a ha => if_neg fun z => ?_, S_zero] at e
    · have q : ((ent (eqRows d last g) i i : Int) : Rat) = ((tot d i : Int) : Rat) := by
        rw [Rat.intCast_natCast]
        show matR (eqRows d last g) i i = _
        grind
      rw [Int.one_mul]
      exact Rat.intCast_inj.mp q
    · rw [Bool.and_eq_true] at z
      have t := (nxt_tree o hm (by omega : a < 10) (live_pos z.1)).1
      rw [beq_iff_eq.mp z.2] at t
      have := congrArg List.length t
      rw [List.length_append, List.length_singleton] at this
      omega
  · rw [Int.one_mul]
    by_cases c : i = j
    · subst c
      have e := eqRows_mat (last := last) (g := g) o hi (j := i) (by omega)
      unfold sys at e
      rw [if_neg (by omega), if_pos rfl, S_congr (g := fun _ => 0) fun a ha => if_neg fun z => ?_, S_zero] at e
      · have q : ((ent (eqRows d last g) i i : Int) : Rat) = ((tot d i : Int) : Rat) := by
          rw [Rat.intCast_natCast]
          show matR (eqRows d last g) i i = _
          grind
        rw [Rat.intCast_inj.mp q]
        exact Int.dvd_refl _
      · rw [Bool.and_eq_true] at z
        have t := (nxt_tree o hm (by omega : a < 10) (live_pos z.1)).1
        rw [beq_iff_eq.mp z.2] at t
        have := congrArg List.length t
        rw [List.length_append, List.length_singleton] at this
        omega
    · -- at most one act leads there
      have e := eqRows_mat (last := last) (g := g) o hi (j := j) (by omega)
      unfold sys at e
      rw [if_neg (by omega), if_neg c] at e
      by_cases ex : ∃ a, a < 10 ∧ (live d (halt last) i a && nxt d i a == j) = true
      · obtain ⟨a, ha, z⟩ := ex
        have z' := z
        rw [Bool.and_eq_true] at z'
        have t := nxt_tree o hm ha (live_pos z'.1)
        rw [beq_iff_eq.mp z'.2] at t
        rw [S_one ha fun b hb hn => if_neg fun y => ?_, if_pos z] at e
        · have q : ((ent (eqRows d last g) i j : Int) : Rat) = ((-(tot d j : Int) : Int) : Rat) := by
            rw [Rat.intCast_neg, Rat.intCast_natCast, t.2]
            show matR (eqRows d last g) i j = _
            grind
          rw [Rat.intCast_inj.mp q]
          exact Int.dvd_neg.mpr (Int.dvd_refl _)
        · rw [Bool.and_eq_true] at y
          have t2 := (nxt_tree o hm hb (live_pos y.1)).1
          rw [beq_iff_eq.mp y.2, t.1] at t2
          have := List.head_eq_of_cons_eq (List.append_inj' t2 rfl).2
          exact hn this.symm
      · rw [S_congr (g := fun _ => 0) fun a ha => if_neg fun z => ex ⟨a, ha, z⟩, S_zero] at e
        have q : ((ent (eqRows d last g) i j : Int) : Rat) = ((0 : Int) : Rat) := by
          show matR (eqRows d last g) i j = _
          rw [e, Rat.intCast_zero]
          grind
        rw [Rat.intCast_inj.mp q]
        exact Int.dvd_zero _
theorem lim2 : VB * (14400 * 14400) < 2 ^ 13500 := by decide +kernel
theorem lim1 : VB * ((14400 * (14400 * 51840000 ^ 511) : Nat) : Int) < 2 ^ 13500 := by decide +kernel
theorem VB1 : (1 : Int) ≤ VB := by decide
theorem eqRows_ok (o : DeskOk d) (hg : ∀ s ∈ states d, g s ≤ 14400) : SolveOk (nst d) (eqRows d last g) := by
  have s := eqRows_shape (d := d) (last := last) (g := g)
  have h := eqRows_MM (last := last) (g := g) o
  have l1 := lf_congr (fun _ _ hi hj => eqRows_mat (last := last) (g := g) o hi hj) (sys_l1 (h := halt last) (g := g) o)
  have l2 := lf_congr (fun _ _ hi hj => eqRows_mat (last := last) (g := g) o hi hj) (sys_l2 (h := halt last) (g := g) o hg)
  by_cases hm : d.memory = 2
  · have hW : ∀ i, i < nst d → (0 : Int) < (tot d i : Int) := fun i hi => by
      have := tot_pos o hi
      omega
    have hmu : ∀ m, m ≤ nst d → ∀ i, i < nst d → Mult (nst d) (fun j => (tot d j : Int)) (stepped (eqRows d last g) m) i := fun m hmn => mult_stepped s h hW (fun i hi => tree_mult o hm hi) hmn
    have dl : ∀ m i, m ≤ nst d → i < nst d → ent (stepped (eqRows d last g) m) i i ≤ 14400 := fun m i hmn hi => Int.le_trans (mult_le (stepped_MM s h hmn) hi (hmu m hmn i hi)) (tot_le o i)
    refine solve_ok s h (by decide) l1 l2 VB1 (fun i _ => vv_le i) lim2 (fun m i hmn hi _ _ => ?_) (fun m i hmn hi => ?_)
    · have d1 := diag_pos (stepped_MM s h (m := m) (by omega)) (i := m) (by omega)
      exact mul_le4 (dl m i (by omega) hi) (dl m m (by omega) (by omega)) (by omega) (by decide)
    · have := dl m i hmn hi
      omega
  · have fw : nst d ≤ 11 := states_few o hm
    -- the numbers x and y
    have fx : Few (nst d) (eqRows d last g) (if 1 < nst d then tot d 1 else 1) (if 1 < nst d then 14400 - tot d 1 else 1) := by
      refine ⟨?_, ?_, fun i hi hn => ?_, fun h1 => ?_, fun k hk h2 => ?_⟩
      · split
        · exact tot_pos o (by omega)
        · exact Nat.one_pos
      · split
        · have t0 := tot_pos o (i := 0) (by omega)
          have t2 := from_two o (s := st d 0) (t := st d 1) (fun e => absurd (st_inj (by omega) (by omega) e) (by decide))
          unfold tot at *
          omega
        · exact Nat.one_pos
      · have m0 : d.memory ≠ 0 := fun z => by
          have : nst d ≤ 1 := states_zero z
          omega
        have hc : d.cases ≠ [] := fun z => by
          have e : steps d = [] := by
            unfold steps
            rw [z]
            rfl
          have : nst d = 0 := by
            show (states d).length = 0
            unfold states
            rw [e]
            rfl
          omega
        have e := eqRows_mat (last := last) (g := g) o hi (j := 0) (by omega)
        unfold sys at e
        rw [if_neg (by omega), if_neg hn, S_congr (g := fun _ => 0) fun a ha => if_neg fun z => ?_, S_zero] at e
        · have q : ((ent (eqRows d last g) i 0 : Int) : Rat) = ((0 : Int) : Rat) := by
            show matR (eqRows d last g) i 0 = _
            rw [e, Rat.intCast_zero]
            grind
          exact Rat.intCast_inj.mp q
        · rw [Bool.and_eq_true] at z
          have t : st d (nxt d i a) = onTo d (st d i) a := st_find (onTo_mem o (by omega) (live_pos z.1))
          rw [beq_iff_eq.mp z.2] at t
          obtain ⟨r, er⟩ := states_first d hc
          have s0 : st d 0 = [] := by
            unfold st
            rw [er]
            rfl
          exact onTo_ne_nil m0 _ _ (t.symm.trans s0)
      · rw [if_pos h1]
        exact ent_le o h1
      · rw [if_pos (by omega)]
        have t2 := from_two o (s := st d 1) (t := st d k) (fun e => by
          have := st_inj (by omega) hk e
          omega)
        have := ent_le (last := last) (g := g) o hk
        unfold tot at *
        omega
    have hxy : (if 1 < nst d then tot d 1 else 1) + (if 1 < nst d then 14400 - tot d 1 else 1) ≤ 14400 := by
      have : tot d 1 ≤ 14400 := from_le o _
      split <;> omega
    generalize (if 1 < nst d then tot d 1 else 1) = x at fx hxy
    generalize (if 1 < nst d then 14400 - tot d 1 else 1) = y at fx hxy
    have big : Pw x y 11 ≤ 14400 * 51840000 ^ 511 := by
      rw [Pw_eq]
      have e : 14400 * 14400 / 4 = 51840000 := by decide
      have p := prod_le hxy
      rw [e] at p
      exact Nat.mul_le_mul (by omega) (Nat.pow_le_pow_left p 511)
    have up : ∀ m i, m ≤ 11 → i < nst d → ent (eqRows d last g) i i * (Pw x y m : Nat) ≤ ((14400 * (14400 * 51840000 ^ 511) : Nat) : Int) := fun m i hm' hi => by
      have e1 := Int.le_trans (ent_le (last := last) (g := g) o hi) (tot_le o i)
      have e2 : ((Pw x y m : Nat) : Int) ≤ ((14400 * 51840000 ^ 511 : Nat) : Int) := Int.ofNat_le.mpr (Nat.le_trans (Pw_le fx.xp fx.yp hm') big)
      rw [Int.natCast_mul]
      exact mul_le4 e1 e2 (Int.natCast_nonneg _) (Int.natCast_nonneg 14400)
    refine solve_ok s h (by decide) l1 l2 VB1 (fun i _ => vv_le i) lim1 (fun m i hmn hi hne h0 => ?_) (fun m i hmn hi => ?_)
    · exact Int.le_trans (few_prod s h fx hmn hi hne h0) (up (m + 1) i (by omega) hi)
    · exact Int.le_trans (few_diag s h fx hmn i hi) (up m i (by omega) hi)
end
end CN
/-! The specification's values are what the program solves. -/
namespace CN
open Km522

def xsol (d : Desk) (last : Nat) (g : List Nat → Nat) : List Rat := solvedR (nst d) (eqRows d last g)
def haltOk (hh : Nat → Bool) (last : Nat) : Prop := ∀ a, a < 10 → hh a = (a == last)
section
variable {d : Desk} {last : Nat} {g : List Nat → Nat} {hh : Nat → Bool}
theorem Sol.congr {n : Nat} {x : Nat → Rat} {A B : Mat} (q : Sol n x A) (e : ∀ i j, i < n → j ≤ n → B i j = A i j) : Sol n x B := fun i hi => by
  rw [S_congr fun j hj => by rw [e i j hi (by omega)], e i n hi (Nat.le_refl n)]
  exact q i hi
theorem xsol_eq (o : DeskOk d) {x : Nat → Rat} (q : Sol (nst d) x (sys d (halt last) g)) : xsol d last g = (List.range (nst d)).map x :=
  solvedR_eq eqRows_shape (eqRows_MM o) (q.congr fun _ _ hi hj => eqRows_mat o hi hj)
theorem xsol_len : (xsol d last g).length = nst d := by
  unfold xsol solvedR
  rw [List.length_map, List.length_range]
theorem sys_sol (o : DeskOk d) : ∃ x, Sol (nst d) x (sys d (halt last) g) := by
  obtain ⟨x, q⟩ := sol_exists eqRows_shape (eqRows_MM (last := last) (g := g) o)
  exact ⟨x, q.congr fun _ _ hi hj => (eqRows_mat o hi hj).symm⟩
theorem div_nn {a b : Rat} (h1 : 0 ≤ a) (h2 : 0 ≤ b) : 0 ≤ a / b := by
  by_cases c : b = 0
  · rw [c]
    grind
  · refine nn_of_mul (by grind : 0 < b) ?_
    have : b * (a / b) = a := by grind
    rw [this]
    exact h1
theorem xsol_nonneg (o : DeskOk d) {r : Rat} (hr : r ∈ xsol d last g) : 0 ≤ r := by
  unfold xsol solvedR at hr
  obtain ⟨i, hi, rfl⟩ := List.mem_map.mp hr
  have hi := List.mem_range.mp hi
  have m := (stepped_MM eqRows_shape (eqRows_MM (last := last) (g := g) o) (Nat.le_refl (nst d))).rhs i hi
  have m2 : 0 ≤ ent (stepped (eqRows d last g) (nst d)) i (nst d) := Rat.intCast_nonneg.mp m
  rw [Rat.mkRat_eq_div]
  have h1 : (0 : Rat) ≤ ((ent (stepped (eqRows d last g) (nst d)) i (nst d) : Int) : Rat) := m
  have h2 : (0 : Rat) ≤ (((ent (stepped (eqRows d last g) (nst d)) i i).toNat : Nat) : Rat) := Rat.natCast_nonneg
  exact div_nn h1 h2

/-! ### sums over a filter -/
theorem filter_S {n : Nat} {p : Nat → Bool} {f : Nat → Rat} : (((List.range n).filter p).map f).sum = S n fun a => if p a = true then f a else 0 := by
  induction n with
  | zero => rfl
  | succ n ih =>
    rw [List.range_succ, List.filter_append, List.map_append, List.sum_append, ih]
    show _ = S n _ + (if p n = true then f n else 0)
    congr 1
    by_cases c : p n = true
    · rw [if_pos c, List.filter_cons, if_pos c]
      show f n + 0 = f n
      grind
    · rw [if_neg c, List.filter_cons, if_neg c]
      rfl
theorem mkRat_nat (a b : Nat) : mkRat (a : Int) b = (a : Rat) / (b : Rat) := by
  rw [Rat.mkRat_eq_div, Rat.intCast_natCast]
theorem chance_fr (s : List Nat) (a : Nat) : chance d s a = fr ((fromTo d s a : Rat) / (from_ d s : Rat)) := by
  unfold chance
  rw [mk_fr, mkRat_nat]

/-! ### memory 0 and 1 -/
def specQ (d : Desk) (hh : Nat → Bool) (g : List Nat → Nat) : List (List Rat) :=
  (states d).map fun s => ((states d).map fun t => (if s = t then 1 else 0) - (((List.range 10).filter fun a => !hh a && onTo d s a == t).map fun a => (fromTo d s a : Rat) / (from_ d s : Rat)).sum) ++ [(g s : Rat) / (from_ d s : Rat)]
theorem values_toF {earns : List Nat → Frac} (he : ∀ s ∈ states d, earns s = fr ((g s : Rat) / (from_ d s : Rat))) : values d hh earns = solve (nst d) (toF (specQ d hh g)) := by
  unfold values
  show solve (nst d) _ = _
  congr 1
  unfold toF specQ
  rw [List.map_map]
  refine List.map_congr_left fun s hs => ?_
  show _ = List.map fr _
  rw [List.map_append, List.map_map, he s hs]
  congr 1
  refine List.map_congr_left fun t _ => ?_
  show sub _ (sumF _) = fr (_ - _)
  have e : ((List.range ACTS).filter fun a => !hh a && onTo d s a == t).map (fun a => chance d s a) = (((List.range 10).filter fun a => !hh a && onTo d s a == t).map fun a => (fromTo d s a : Rat) / (from_ d s : Rat)).map fr := by
    rw [List.map_map]
    exact List.map_congr_left fun a _ => chance_fr s a
  rw [e, sumF_fr, ← sub_fr]
  congr 1
  split
  · exact one_fr
  · exact zero_fr
theorem specQ_shape : ShapeQ (nst d) (specQ d hh g) := by
  refine ⟨by unfold specQ; rw [List.length_map], fun r hr => ?_⟩
  obtain ⟨s, _, rfl⟩ := List.mem_map.mp hr
  rw [List.length_append, List.length_map, List.length_singleton]
theorem specQ_ent (o : DeskOk d) (hk : haltOk hh last) {i j : Nat} (hi : i < nst d) (hj : j ≤ nst d) : (tot d i : Rat) * entQ (specQ d hh g) i j = sys d (halt last) g i j := by
  have hT : (tot d i : Rat) ≠ 0 := fun z => by
    have := Rat.natCast_eq_zero_iff.mp z
    have := tot_pos o hi
    omega
  have er : (specQ d hh g).getD i [] = ((states d).map fun t => (if st d i = t then 1 else 0) - (((List.range 10).filter fun a => !hh a && onTo d (st d i) a == t).map fun a => (fromTo d (st d i) a : Rat) / (from_ d (st d i) : Rat)).sum) ++ [(g (st d i) : Rat) / (from_ d (st d i) : Rat)] := by
    unfold specQ
    rw [List.getD_eq_getElem?_getD, List.getElem?_map, List.getElem?_eq_getElem hi]
    have : st d i = (states d)[i] := by
      unfold st
      rw [List.getD_eq_getElem?_getD, List.getElem?_eq_getElem hi]
      rfl
    rw [this]
    rfl
  unfold entQ
  rw [er]
  unfold sys
  by_cases c : j = nst d
  · rw [if_pos c, c, List.getD_eq_getElem?_getD, List.getElem?_append_right (by rw [List.length_map]; exact Nat.le_refl _), List.length_map, Nat.sub_self]
    show (tot d i : Rat) * ((g (st d i) : Rat) / (tot d i : Rat)) = _
    grind
  · have hj' : j < nst d := by omega
    have ej : (states d)[j]? = some (st d j) := by
      unfold st
      rw [List.getD_eq_getElem?_getD, List.getElem?_eq_getElem hj']
      rfl
    rw [if_neg c, List.getD_eq_getElem?_getD, List.getElem?_append_left (by rw [List.length_map]; exact hj'), List.getElem?_map, ej]
    show (tot d i : Rat) * ((if st d i = st d j then 1 else 0) - _) = _
    rw [filter_S]
    have e1 : (tot d i : Rat) * (if st d i = st d j then (1 : Rat) else 0) = if i = j then (tot d i : Rat) else 0 := by
      by_cases q : i = j
      · rw [if_pos q, if_pos (by rw [q])]
        grind
      · rw [if_neg q, if_neg (fun z => q (st_inj hi hj' z))]
        grind
    have e2 : (tot d i : Rat) * S 10 (fun a => if (!hh a && onTo d (st d i) a == st d j) = true then (fromTo d (st d i) a : Rat) / (from_ d (st d i) : Rat) else 0) = S 10 (fun a => if (live d (halt last) i a && nxt d i a == j) = true then (wt d i a : Rat) else 0) := by
      rw [← S_mul]
      refine S_congr fun a ha => ?_
      show (tot d i : Rat) * (if (!hh a && onTo d (st d i) a == st d j) = true then (wt d i a : Rat) / (tot d i : Rat) else 0) = _
      by_cases w0 : wt d i a = 0
      · have e0 : ((wt d i a : Nat) : Rat) = 0 := by
          rw [w0]
          rfl
        rw [e0]
        split <;> split <;> grind
      · have wp : 0 < wt d i a := by omega
        have iff : ((!hh a && onTo d (st d i) a == st d j) = true) ↔ ((live d (halt last) i a && nxt d i a == j) = true) := by
          rw [Bool.and_eq_true, Bool.and_eq_true, live_iff, hk a ha, beq_iff_eq, beq_iff_eq, Bool.not_eq_true', beq_eq_false_iff_ne]
          constructor
          · rintro ⟨p, q⟩
            refine ⟨⟨wp, p⟩, ?_⟩
            unfold nxt
            rw [q]
            exact find_st hj'
          · rintro ⟨⟨_, p⟩, q⟩
            refine ⟨p, ?_⟩
            rw [← q]
            exact (st_find (onTo_mem o ha wp)).symm
        by_cases q : (!hh a && onTo d (st d i) a == st d j) = true
        · rw [if_pos q, if_pos (iff.mp q)]
          grind
        · rw [if_neg q, if_neg (fun z => q (iff.mpr z))]
          grind
    have e3 : ∀ u v : Rat, (tot d i : Rat) * (u - v) = (tot d i : Rat) * u - (tot d i : Rat) * v := fun u v => by grind
    rw [e3, e1, e2]
theorem MM.scale {n : Nat} {v : Nat → Rat} {A B : Mat} (h : MM n v A) {c : Nat → Rat} (hc : ∀ i, i < n → 0 < c i) (e : ∀ i j, i < n → j ≤ n → c i * B i j = A i j) : MM n v B where
  off := fun i j hi hj hn => np_of_mul (hc i hi) (by rw [e i j hi (by omega)]; exact h.off i j hi hj hn)
  vp := h.vp
  av := fun i hi => by
    refine ps_of_mul (hc i hi) ?_
    have q : c i * S n (fun j => B i j * v j) = S n fun j => A i j * v j := by
      rw [← S_mul]
      refine S_congr fun j hj => ?_
      rw [← e i j hi (by omega)]
      grind
    rw [q]
    exact h.av i hi
  rhs := fun i hi => nn_of_mul (hc i hi) (by rw [e i n hi (Nat.le_refl n)]; exact h.rhs i hi)
theorem Sol.scale {n : Nat} {x : Nat → Rat} {A B : Mat} (q : Sol n x A) {c : Nat → Rat} (hc : ∀ i, i < n → 0 < c i) (e : ∀ i j, i < n → j ≤ n → c i * B i j = A i j) : Sol n x B := fun i hi => by
  have h := q i hi
  have h1 : c i * S n (fun j => B i j * x j) = S n fun j => A i j * x j := by
    rw [← S_mul]
    refine S_congr fun j hj => ?_
    rw [← e i j hi (by omega)]
    grind
  have h2 := e i n hi (Nat.le_refl n)
  have h3 := hc i hi
  rw [← h1, ← h2] at h
  have h4 : c i * (S n (fun j => B i j * x j) - B i n) = 0 := by grind
  have h5 := z_of_mul h3 h4
  grind
theorem tot_posR (o : DeskOk d) {i : Nat} (hi : i < nst d) : (0 : Rat) < (tot d i : Rat) := Rat.natCast_pos.mpr (tot_pos o hi)
theorem values_eq (o : DeskOk d) (hk : haltOk hh last) {earns : List Nat → Frac} (he : ∀ s ∈ states d, earns s = fr ((g s : Rat) / (from_ d s : Rat))) : values d hh earns = (xsol d last g).map fr := by
  obtain ⟨x, q⟩ := sys_sol (last := last) (g := g) o
  rw [values_toF he, xsol_eq o q, List.map_map]
  have hc : ∀ i, i < nst d → (0 : Rat) < (fun i => (tot d i : Rat)) i := fun i hi => tot_posR o hi
  exact solve_eq specQ_shape ((sys_MM (h := halt last) (g := g) o).scale hc fun i j hi hj => specQ_ent o hk hi hj) (q.scale hc fun i j hi hj => specQ_ent o hk hi hj)

/-! ### memory 2 -/
def laterQ (d : Desk) (hh : Nat → Bool) (g : List Nat → Nat) : Nat → List Nat → Rat
  | 0, _ => 0
  | f + 1, s => if from_ d s = 0 then 0 else (g s : Rat) / (from_ d s : Rat) + S 10 fun a => if (!hh a && fromTo d s a != 0) = true then (fromTo d s a : Rat) / (from_ d s : Rat) * laterQ d hh g f (s ++ [a]) else 0
theorem later_fr (o : DeskOk d) {earns : List Nat → Frac} (he : ∀ s ∈ states d, earns s = fr ((g s : Rat) / (from_ d s : Rat))) : ∀ (f : Nat) (s : List Nat), later d hh earns f s = fr (laterQ d hh g f s)
  | 0, s => zero_fr
  | f + 1, s => by
    unfold later laterQ
    by_cases c : from_ d s = 0
    · rw [if_pos c, if_pos c]
      exact zero_fr
    · rw [if_neg c, if_neg c, he s ((from_pos o).mp (by omega)), ← filter_S, ← add_fr, ← sumF_fr]
      congr 1
      congr 1
      rw [List.map_map]
      refine List.map_congr_left fun a _ => ?_
      rw [later_fr o he f, chance_fr, mul_fr]
      rfl
theorem state_len (o : DeskOk d) {s : List Nat} (hm : d.memory = 2) (h : s ∈ states d) : s.length ≤ 8 := by
  obtain ⟨c, hc, k, hk, rfl⟩ := mem_states.mp h
  rw [hm, mind_two, List.length_take]
  have := o.len c hc
  omega
theorem laterQ_fuel (o : DeskOk d) (hm : d.memory = 2) : ∀ (f f' : Nat) (s : List Nat), 9 ≤ f + s.length → 9 ≤ f' + s.length → laterQ d hh g f s = laterQ d hh g f' s
  | f, f', s, h1, h2 => by
    by_cases c : from_ d s = 0
    · have z : ∀ f, laterQ d hh g f s = 0 := fun f => by
        cases f with
        | zero => rfl
        | succ f =>
          unfold laterQ
          rw [if_pos c]
      rw [z, z]
    · have hl := state_len o hm ((from_pos o).mp (by omega : 0 < from_ d s))
      match f, f', h1, h2 with
      | 0, _, h1, _ => omega
      | _ + 1, 0, _, h2 => omega
      | f + 1, f' + 1, h1, h2 =>
        unfold laterQ
        rw [if_neg c, if_neg c]
        congr 1
        refine S_congr fun a _ => ?_
        rw [laterQ_fuel o hm f f' (s ++ [a]) (by rw [List.length_append, List.length_singleton]; omega) (by rw [List.length_append, List.length_singleton]; omega)]
theorem later_sol (o : DeskOk d) (hm : d.memory = 2) (hk : haltOk hh last) : Sol (nst d) (fun i => laterQ d hh g 9 (st d i)) (sys d (halt last) g) := fun i hi => by
  rw [sys_lin o _ hi]
  have hT : (tot d i : Rat) ≠ 0 := fun z => by
    have := Rat.natCast_eq_zero_iff.mp z
    have := tot_pos o hi
    omega
  have er : sys d (halt last) g i (nst d) = (g (st d i) : Rat) := by
    unfold sys
    exact if_pos rfl
  have ex : laterQ d hh g 9 (st d i) = (g (st d i) : Rat) / (tot d i : Rat) + S 10 fun a => if (!hh a && fromTo d (st d i) a != 0) = true then (wt d i a : Rat) / (tot d i : Rat) * laterQ d hh g 8 (st d i ++ [a]) else 0 := by
    have := tot_pos o hi
    show (if from_ d (st d i) = 0 then (0 : Rat) else _) = _
    rw [if_neg (by unfold tot at this; omega)]
    rfl
  have e2 : S 10 (fun a => if live d (halt last) i a = true then (wt d i a : Rat) * laterQ d hh g 9 (st d (nxt d i a)) else 0) = (tot d i : Rat) * S 10 fun a => if (!hh a && fromTo d (st d i) a != 0) = true then (wt d i a : Rat) / (tot d i : Rat) * laterQ d hh g 8 (st d i ++ [a]) else 0 := by
    rw [← S_mul]
    refine S_congr fun a ha => ?_
    have iff : ((!hh a && fromTo d (st d i) a != 0) = true) ↔ (live d (halt last) i a = true) := by
      rw [Bool.and_eq_true, live_iff, hk a ha, Bool.not_eq_true', beq_eq_false_iff_ne, bne_iff_ne]
      exact ⟨fun ⟨p, q⟩ => ⟨Nat.pos_of_ne_zero q, p⟩, fun ⟨p, q⟩ => ⟨q, Nat.ne_of_gt p⟩⟩
    by_cases c : live d (halt last) i a = true
    · rw [if_pos c, if_pos (iff.mpr c), (nxt_tree o hm ha (live_pos c)).1, laterQ_fuel o hm 9 8 (st d i ++ [a]) (by omega) (by rw [List.length_append, List.length_singleton]; omega)]
      grind
    · rw [if_neg c, if_neg (fun z => c (iff.mp z))]
      grind
  rw [er, e2, ex]
  grind
/-- the value that the specification tells of a state -/
theorem value_eq (o : DeskOk d) (hk : haltOk hh last) {earns : List Nat → Frac} (he : ∀ s ∈ states d, earns s = fr ((g s : Rat) / (from_ d s : Rat))) {i : Nat} (hi : i < nst d) : value d hh earns (st d i) = fr ((xsol d last g).getD i 0) := by
  unfold value
  by_cases hm : d.memory = 2
  · rw [if_pos hm, later_fr o he, xsol_eq o (later_sol o hm hk), range_map_getD hi]
    rfl
  · rw [if_neg hm, values_eq o hk he, find_st hi]
    exact getD_map rfl
end
end CN
/-! The chain: what the program's two lists hold behind so many places. -/
namespace CN
open Km522

def thg (L : List Stp) : List (List Nat) := dd [] (L.map fun x => x.1)
def wsum (L : List Stp) (s : List Nat) (a : Nat) : Nat := ws L fun y => y.1 == s && y.2.1 == a
def trow (L : List Stp) (s : List Nat) : List Int := (List.range 11).map fun a => (wsum L s a : Int)
def tab (L : List Stp) : List (List Int) := (thg L).map (trow L)
def stepsOf (m : Nat) (c : Case) : List Stp := (List.range (c.1.length + 1)).map fun k => (mind m (c.1.take k), c.1.getD k END, c.2)
theorem steps_flat (d : Desk) : steps d = d.cases.flatMap (stepsOf d.memory) := rfl
theorem thg_steps (d : Desk) : thg (steps d) = states d := rfl
theorem wsum_steps (d : Desk) (s : List Nat) (a : Nat) : wsum (steps d) s a = fromTo d s a := (fromTo_eq d s a).symm
theorem thg_snoc (L : List Stp) (x : Stp) : thg (L ++ [x]) = if x.1 ∈ thg L then thg L else thg L ++ [x.1] := by
  unfold thg dd
  rw [List.map_append, List.foldl_append]
  show (if List.contains _ x.1 = true then _ else _) = _
  by_cases c : x.1 ∈ (L.map fun x => x.1).foldl (fun (l : List (List Nat)) (s : List Nat) => if l.contains s then l else l ++ [s]) []
  · rw [if_pos c, if_pos (List.contains_iff_mem.mpr c)]
  · rw [if_neg c, if_neg (fun z => c (List.contains_iff_mem.mp z))]
theorem thg_nodup (L : List Stp) : (thg L).Nodup := nodup_dd List.nodup_nil
theorem wsum_snoc (L : List Stp) (x : Stp) (s : List Nat) (a : Nat) : wsum (L ++ [x]) s a = wsum L s a + if x.1 = s ∧ x.2.1 = a then x.2.2 else 0 := by
  unfold wsum
  rw [ws_append, ws_cons, ws_nil]
  congr 1
  by_cases c : x.1 = s ∧ x.2.1 = a
  · rw [if_pos c, if_pos (by rw [c.1, c.2, beq_self_eq_true, beq_self_eq_true]; rfl), Nat.add_zero]
  · rw [if_neg c, if_neg]
    intro z
    rw [Bool.and_eq_true] at z
    exact c ⟨beq_iff_eq.mp z.1, beq_iff_eq.mp z.2⟩
theorem wsum_out {L : List Stp} {s : List Nat} (h : s ∉ thg L) (a : Nat) : wsum L s a = 0 := by
  have : ¬ 0 < wsum L s a := fun z => by
    obtain ⟨x, hx, h1, _⟩ := ws_pos.mp z
    rw [Bool.and_eq_true] at h1
    refine h (mem_dd.mpr (.inr (List.mem_map.mpr ⟨x, hx, beq_iff_eq.mp h1.1⟩)))
  omega
theorem trow_len (L : List Stp) (s : List Nat) : (trow L s).length = 11 := by
  unfold trow
  rw [List.length_map, List.length_range]
theorem trow_get {L : List Stp} {s : List Nat} {a : Nat} (ha : a < 11) : (trow L s).getD a 0 = (wsum L s a : Int) := by
  unfold trow
  rw [List.getD_eq_getElem?_getD, List.getElem?_map, List.getElem?_range ha]
  rfl
theorem trow_at {L : List Stp} {s : List Nat} {a : Nat} (ha : a < 11) : (trow L s)[a]? = some (wsum L s a : Int) := by
  unfold trow
  rw [List.getElem?_map, List.getElem?_range ha]
  rfl
theorem trow_no {L : List Stp} {s : List Nat} {a : Nat} (ha : ¬ a < 11) : (trow L s)[a]? = none := List.getElem?_eq_none (by rw [trow_len]; omega)
theorem trow_out {L : List Stp} {s : List Nat} (h : s ∉ thg L) : trow L s = List.replicate 11 0 := by
  refine List.ext_getElem? fun i => ?_
  by_cases c : i < 11
  · rw [trow_at c, wsum_out h, List.getElem?_replicate, if_pos c]
    rfl
  · rw [trow_no c, List.getElem?_replicate, if_neg c]
theorem trow_snoc_ne {L : List Stp} {x : Stp} {s : List Nat} (h : x.1 ≠ s) : trow (L ++ [x]) s = trow L s := by
  unfold trow
  refine List.map_congr_left fun a _ => ?_
  rw [wsum_snoc, if_neg (fun z => h z.1), Nat.add_zero]
theorem trow_snoc_eq {L : List Stp} {x : Stp} (ha : x.2.1 < 11) : trow (L ++ [x]) x.1 = (trow L x.1).set x.2.1 ((trow L x.1).getD x.2.1 0 + (x.2.2 : Int)) := by
  refine List.ext_getElem? fun i => ?_
  rw [List.getElem?_set, trow_len, trow_get ha]
  by_cases c : i < 11
  · rw [trow_at c, wsum_snoc]
    by_cases e : x.2.1 = i
    · subst e
      rw [if_pos rfl, if_pos ha, if_pos ⟨rfl, rfl⟩]
      rw [Int.natCast_add]
    · rw [if_neg e, if_neg (fun z => e z.2), trow_at c, Nat.add_zero]
  · rw [trow_no c]
    by_cases e : x.2.1 = i
    · omega
    · rw [if_neg e, trow_no c]
/-- the rows ahead of the new place's own addition: of each thing, the new one's all 0 -/
theorem tab_mid (L : List Stp) (x : Stp) : (if x.1 ∈ thg L then tab L else tab L ++ [List.replicate 11 0]) = (thg (L ++ [x])).map (trow L) := by
  rw [thg_snoc]
  by_cases c : x.1 ∈ thg L
  · rw [if_pos c, if_pos c]
    rfl
  · rw [if_neg c, if_neg c, List.map_append]
    show tab L ++ _ = tab L ++ [trow L x.1]
    rw [trow_out c]
theorem map_set_one {α : Type} {T : List (List Nat)} {f g : List Nat → α} {i : Nat} {s : List Nat} (nd : T.Nodup) (hi : T[i]? = some s) (h : ∀ t, t ≠ s → g t = f t) : (T.map f).set i (g s) = T.map g := by
  obtain ⟨hl, he⟩ := List.getElem?_eq_some_iff.mp hi
  refine List.ext_getElem (by rw [List.length_set, List.length_map, List.length_map]) fun j h1 h2 => ?_
  rw [List.getElem_set, List.getElem_map, List.getElem_map]
  rw [List.length_map] at h2
  by_cases c : i = j
  · subst c
    rw [if_pos rfl, he]
  · rw [if_neg c]
    refine (h _ fun z => c ?_).symm
    exact (List.getElem_inj nd).mp (he.trans z.symm)
theorem tab_snoc {L : List Stp} {x : Stp} {i : Nat} (ha : x.2.1 < 11) (hi : (thg (L ++ [x]))[i]? = some x.1) :
    ((thg (L ++ [x])).map (trow L)).set i ((trow L x.1).set x.2.1 ((trow L x.1).getD x.2.1 0 + (x.2.2 : Int))) = tab (L ++ [x]) := by
  rw [← trow_snoc_eq ha]
  exact map_set_one (thg_nodup _) hi fun t ht => trow_snoc_ne (Ne.symm ht)
theorem mem_thg_snoc (L : List Stp) (x : Stp) : x.1 ∈ thg (L ++ [x]) := by
  rw [thg_snoc]
  by_cases c : x.1 ∈ thg L
  · rw [if_pos c]
    exact c
  · rw [if_neg c]
    exact List.mem_append_right _ (List.mem_singleton.mpr rfl)
theorem find_get {T : List (List Nat)} {s : List Nat} (h : s ∈ T) : T[T.findIdx fun t => t == s]? = some s := by
  have hl : T.findIdx (fun t => t == s) < T.length := List.findIdx_lt_length.mpr ⟨s, h, beq_self_eq_true s⟩
  rw [List.getElem?_eq_getElem hl]
  congr 1
  exact beq_iff_eq.mp (List.findIdx_getElem (w := hl))
end CN
set_option autoImplicit false
/-! The walk's own words: places of the text, values with a predicate, relations of the heap. -/
namespace CW
open PySem PySem.Spec PyProof.Rows L2 Evl

def top (i : Nat) : Stmt := PySem.Challenge.pw_comesnext_s01_answers.main.body.getD i (.Pass ⟨0, 0, 0, 0⟩)
abbrev Cal (P : Program) (w : World) (K : PySem.W.Frag) (mg : Str → Option Value) (base : Heap) (k : Nat) (x : Str) (sp : Sp) : Prop := C8.Cal P w K mg base k x sp []
/-- a def of the top, under its name -/
structure Glo (K : PySem.W.Frag) (mg : Str → Option Value) (x : Str) (st : Stmt) : Prop where
  ex : ∃ (f : Addr) (fd : FuncData), L2.Fun K x x st f fd ∧ mg x = some (.ref f)
/-- what the top has written besides the defs -/
structure Txt (K : PySem.W.Frag) (mg : Str → Option Value) : Prop where
  len : mg "len" = none
  abs : mg "abs" = none
  sum : mg "sum" = none
  min : mg "min" = none
  list : mg "list" = none
  range : mg "range" = none
  zip : mg "zip" = none
  NOT_THERE : ∃ u, mg "NOT_THERE" = some u ∧ RelV (.int (-2)) u
  NONE_LEFT : ∃ u, mg "NONE_LEFT" = some u ∧ RelV (.int (-6)) u
  NOT_AS_TOLD : ∃ u, mg "NOT_AS_TOLD" = some u ∧ RelV (.int (-22)) u
  TOO_MANY : ∃ u, mg "TOO_MANY" = some u ∧ RelV (.int (-28)) u
  MOST_MEMORY : ∃ u, mg "MOST_MEMORY" = some u ∧ RelV (.int 2) u
  MOST_ACT : ∃ u, mg "MOST_ACT" = some u ∧ RelV (.int 9) u
  MOST_ACTS : ∃ u, mg "MOST_ACTS" = some u ∧ RelV (.int 8) u
  MOST_CASES : ∃ u, mg "MOST_CASES" = some u ∧ RelV (.int 16) u
  MOST_TIMES : ∃ u, mg "MOST_TIMES" = some u ∧ RelV (.int 100) u
  END : ∃ u, mg "END" = some u ∧ RelV (.int 10) u
  ACTS : ∃ u, mg "ACTS" = some u ∧ RelV (.int 10) u
  NOT_KNOWN : ∃ u, mg "NOT_KNOWN" = some u ∧ RelV (.int (-33)) u
  MOST_WITHIN : ∃ u, mg "MOST_WITHIN" = some u ∧ RelV (.int 6) u
  NOT_BEGUN : ∃ u, mg "NOT_BEGUN" = some u ∧ RelV (.int (-11)) u
  NOTHING : ∃ a, (∃ u, mg "NOTHING" = some u ∧ RelV (.ref a) u) ∧ ∀ H, SqT K H a [.int 0, .int 1]
  WHOLE : ∃ a, (∃ u, mg "WHOLE" = some u ∧ RelV (.ref a) u) ∧ ∀ H, SqT K H a [.int 1, .int 1]
  WITH_NUMBER : ∃ a, (∃ u, mg "WITH_NUMBER" = some u ∧ RelV (.ref a) u) ∧ ∀ H, SqT K H a [.int 1, .int 2, .int 5, .int 6, .int 9, .int 13, .int 14, .int 18, .int 20]
section
variable {P : Program} {w : World} {K : PySem.W.Frag} {mg : Str → Option Value} {base : Heap}
theorem cal_by {x : Str} {st : Stmt} {N ps : List Str} {k : Nat} {sp : Sp} (g : Glo K mg x st) (S : FnScope N ps (defScope st))
    (hb : ∀ (kV doc pm : Value) (an : Option Addr) (cdv ct : Value) (us : List Value), us.length = ps.length → bindArgs (PySem.W.fnOf x x (defArgs st) (defBody st) (defScope st) .none kV doc pm an cdv ct) ⟨us, []⟩ = pure (ps.zip us))
    (len : ∀ vs H Q E, sp vs H Q E → vs.length = ps.length)
    (hbody : ∀ (f : Addr) (cdv : Value) (A : Around) (outer : List Env) (s : Shared) (H : Hp) (vs : List V) (Q : VK) (E : XK), Room k (A.deeper (envOfC x (defScope st) s.heap.objs.size f cdv)) → sp vs H Q E →
      ∃ t, PSs (cxOf CX0 P w K mg base N x (defScope st) f cdv A outer s H E).nox (defBody st) t ∧ t { nx := fun _ H' => Q .non H', rt := Q } (start N vs) H) : Cal P w K mg base (k + 1) x sp := by
  obtain ⟨f, fd, F, hm⟩ := g.ex
  exact ⟨f, fd, ps, [], F.ok S len (fun cdv A outer s H vs Q E hr h => hbody f cdv A outer s H vs Q E hr h), hm, F.kp, F.binds hb, .nil⟩
end

/-! ### // of whole numbers: fewer than 13500 bits above, any divisor -/
def CDivQ (i j : Int) : Prop := 0 < j ∧ i.natAbs < 2 ^ 13500
theorem noPylong_num {x y : Int} (h : x.natAbs < 2 ^ 13500) : Builtin.divisionGoesByPylong x y = false := by
  have hx : (if x == 0 then 0 else x.natAbs.log2 / 30 + 1) ≤ 450 := by
    by_cases hz : (x == 0) = true
    · rw [if_pos hz]
      omega
    · rw [if_neg hz]
      have h0 : x.natAbs ≠ 0 := fun z => hz (by rw [beq_iff_eq]; omega)
      have := (Nat.log2_lt h0).mpr h
      omega
  show (decide ((if y == 0 then 0 else y.natAbs.log2 / 30 + 1) > 300) && decide ((if x == 0 then 0 else x.natAbs.log2 / 30 + 1) > (if y == 0 then 0 else y.natAbs.log2 / 30 + 1) + 150)) = false
  by_cases c : (if y == 0 then 0 else y.natAbs.log2 / 30 + 1) > 300
  · rw [decide_eq_false (p := (if x == 0 then 0 else x.natAbs.log2 / 30 + 1) > _) (by omega), Bool.and_false]
  · rw [decide_eq_false c, Bool.false_and]
theorem op_fdivQ {X : Cx} : OpR X (binaryOp .FloorDiv) (rI CDivQ fun i j => .int (i / j)) := opI fun i j _ _ _ _ _ hc q => by
  have h1 : (0 : Int) < j := hc.1
  exact floordiv_int (by omega) (by rw [Int.fdiv_eq_ediv_of_nonneg i (by omega)]; exact q) (.inl (noPylong_num hc.2))

/-! ### two rules with the written part told (within a comprehension) -/
theorem ix_listK {X : Cx} (K : PySem.W.Frag) (h : X.K = K) : IxR X (rIxL K) := by
  subst h
  exact ix_list
theorem cr_sumK {X : Cx} (K : PySem.W.Frag) (h : X.K = K) (hc : X.calm = true) : CallR X (.builtin "sum") (rSum K) := by
  subst h
  exact cr_sum hc
/-! ### a value told by a predicate: of the heap ahead, the heap behind, the value -/
def EvP (te : TE) (σ : L2.St) (H : Hp) (R : Hp → Hp → V → Prop) : Prop := ∀ H1, Ex H H1 → ∀ Q : VK, (∀ v H2, Ex H1 H2 → R H1 H2 v → Q v H2) → te σ H1 Q
def EaP (ta : TA) (σ : L2.St) (H : Hp) (R : Hp → Hp → List V → Prop) : Prop := ∀ H1, Ex H H1 → ∀ Q : List V → Hp → Prop, (∀ vs H2, Ex H1 H2 → R H1 H2 vs → Q vs H2) → ta σ H1 Q
def SpP (sp : Sp) (vs : List V) (H : Hp) (R : Hp → Hp → V → Prop) : Prop := ∀ H1, Ex H H1 → ∀ Q : VK, (∀ v H2, Ex H1 H2 → R H1 H2 v → Q v H2) → ∀ E : XK, sp vs H1 Q E
section
variable {σ : L2.St} {H H' : Hp} {te ta tb : TE} {R S : Hp → Hp → V → Prop} {z x y : V} {D : Ends}
theorem EvP.mono (e : Ex H H') (h : EvP te σ H R) : EvP te σ H' R := fun H1 a Q q => h H1 (e.trans a) Q q
theorem EvP.imp (h : EvP te σ H R) (k : ∀ H1 H2 v, Ex H H1 → Ex H1 H2 → R H1 H2 v → S H1 H2 v) : EvP te σ H S := fun H1 e Q q => h H1 e Q fun v H2 e2 r => q v H2 e2 (k H1 H2 v e e2 r)
theorem evp_ev (h : Ev te σ H z) : EvP te σ H (fun _ _ v => v = z) := fun H1 e Q q => h H1 e Q fun H2 e2 => q z H2 e2 rfl
theorem evp_evL {xs : List V} (h : EvL te σ H xs) : EvP te σ H (fun H1 H2 v => ∃ p, v = .ref p ∧ H1 p = none ∧ H2 p = some (.lst xs)) := fun H1 e Q q => h H1 e Q fun p H2 hp e2 hx => q _ H2 e2 ⟨p, rfl, hp, hx⟩
theorem evp_evU {xs : List V} (h : EvU te σ H xs) : EvP te σ H (fun H1 H2 v => ∃ p, v = .ref p ∧ H1 p = none ∧ H2 p = some (.tup xs)) := fun H1 e Q q => h H1 e Q fun p H2 hp e2 hx => q _ H2 e2 ⟨p, rfl, hp, hx⟩
theorem eap_nil : EaP tNil σ H (fun _ _ vs => vs = []) := fun H1 _ _ q => q [] H1 (Ex.refl H1) rfl
theorem eap_ea {ta : TA} {vs : List V} (h : EvA ta σ H vs) : EaP ta σ H (fun _ _ ws => ws = vs) := fun H1 e Q q => h H1 e Q fun H2 e2 => q vs H2 e2 rfl
theorem eap_cons {tr : TA} {U : Hp → Hp → List V → Prop} (h : EvP te σ H R) (hr : ∀ v H1 H2, Ex H H1 → Ex H1 H2 → R H1 H2 v → EaP tr σ H2 (fun H3 H4 vs => Ex H2 H3 → U H1 H4 (v :: vs))) : EaP (tCons te tr) σ H U :=
  fun H1 e Q q => h H1 e _ fun v H2 e2 r => hr v H1 H2 e e2 r H2 (Ex.refl H2) _ fun vs H4 e4 u => q (v :: vs) H4 (e2.trans e4) (u (Ex.refl H2))
/-- a call: its arguments told by a predicate -/
theorem evp_call {sp : Sp} {E : XK} {ta : TA} {U : Hp → Hp → List V → Prop} (h : EaP ta σ H U) (hs : ∀ vs H1 H2, Ex H H1 → Ex H1 H2 → U H1 H2 vs → SpP sp vs H2 (fun _ H4 v => R H1 H4 v)) : EvP (tCall sp [] E ta) σ H R :=
  fun H1 e Q q => h H1 e _ fun vs H2 e2 u => by
    show sp (vs ++ []) H2 Q E
    rw [List.append_nil]
    exact hs vs H1 H2 e e2 u H2 (Ex.refl H2) Q (fun v H4 e4 r => q v H4 (e2.trans e4) r) E
/-- .. known -/
theorem evp_callA {sp : Sp} {E : XK} {ta : TA} {vs : List V} (h : EvA ta σ H vs) (hs : SpP sp vs H R) : EvP (tCall sp [] E ta) σ H (fun H1 H2 v => ∃ H0, Ex H1 H0 ∧ R H0 H2 v) :=
  fun H1 e Q q => h H1 e _ fun H2 e2 => by
    show sp (vs ++ []) H2 Q E
    rw [List.append_nil]
    exact hs H2 (e.trans e2) Q (fun v H4 e4 r => q v H4 (e2.trans e4) ⟨H2, e2, r⟩) E
theorem ev_callV {sp : Sp} {E : XK} {ta : TA} {vs : List V} (h : EvA ta σ H vs) (hs : SpV sp vs H z) : Ev (tCall sp [] E ta) σ H z := ev_call h (by rw [List.append_nil]; exact hs)
theorem s_asgP {i : Nat} (h : EvP te σ H R) (k : ∀ v H1, Ex H H1 → R H H1 v → D.nx (σ.set i (some v)) H1) : tAsg te (gName i) D σ H := h H (Ex.refl H) _ fun v H1 e r => k v H1 e r
theorem q_asgP {i : Nat} {tz : TS} (h : EvP te σ H R) (k : ∀ v H1, Ex H H1 → R H H1 v → tz D (σ.set i (some v)) H1) : tSeq (tAsg te (gName i)) tz D σ H := s_asgP (D := { D with nx := tz D }) h k
theorem s_retP (h : EvP te σ H R) (k : ∀ v H1, Ex H H1 → R H H1 v → D.rt v H1) : tRet te D σ H := h H (Ex.refl H) _ fun v H1 e r => k v H1 e r
end

/-! ### data in the heap -/
/-- a list of ints -/
def LI (H : Hp) (v : V) (xs : List Int) : Prop := ∃ a, v = .ref a ∧ H a = some (.lst (xs.map V.int))
theorem LI.mono {H H' : Hp} {v : V} {xs : List Int} (e : Ex H H') (h : LI H v xs) : LI H' v xs := let ⟨a, h1, h2⟩ := h; ⟨a, h1, e a _ h2⟩
/-- values that stand for things, one by one -/
def All2 {α : Type} (R : V → α → Prop) (vs : List V) (xs : List α) : Prop := vs.length = xs.length ∧ ∀ (i : Nat) (v : V) (x : α), vs[i]? = some v → xs[i]? = some x → R v x
/-- a list of things -/
def LG {α : Type} (R : Hp → V → α → Prop) (H : Hp) (v : V) (xs : List α) : Prop := ∃ a vs, v = .ref a ∧ H a = some (.lst vs) ∧ All2 (R H) vs xs
theorem LG.mono {α : Type} {R : Hp → V → α → Prop} {H H' : Hp} {v : V} {xs : List α} (m : ∀ v x, R H v x → R H' v x) (e : Ex H H') (h : LG R H v xs) : LG R H' v xs :=
  let ⟨a, vs, h1, h2, h3, h4⟩ := h; ⟨a, vs, h1, e a _ h2, h3, fun i v x p q => m _ _ (h4 i v x p q)⟩
/-- a list of lists of ints -/
abbrev LR (H : Hp) (v : V) (xss : List (List Int)) : Prop := LG LI H v xss
theorem LR.mono {H H' : Hp} {v : V} {xss : List (List Int)} (e : Ex H H') (h : LR H v xss) : LR H' v xss := LG.mono (fun _ _ q => q.mono e) e h
/-- a fraction -/
def FrV (K : PySem.W.Frag) (H : Hp) (v : V) (r : Rat) : Prop := ∃ a, v = .ref a ∧ SqT K H a [.int r.num, .int r.den]
theorem FrV.mono {K : PySem.W.Frag} {H H' : Hp} {v : V} {r : Rat} (e : Ex H H') (h : FrV K H v r) : FrV K H' v r := let ⟨a, h1, h2⟩ := h; ⟨a, h1, ex_t e h2⟩
/-- a list of fractions -/
abbrev LF (K : PySem.W.Frag) (H : Hp) (v : V) (rs : List Rat) : Prop := LG (FrV K) H v rs
theorem LF.mono {K : PySem.W.Frag} {H H' : Hp} {v : V} {rs : List Rat} (e : Ex H H') (h : LF K H v rs) : LF K H' v rs := LG.mono (fun _ _ q => q.mono e) e h

/-! ### a heap without one address -/
def hide (D : Addr) (H : Hp) : Hp := fun b => if b = D then none else H b
theorem hide_ne {D a : Addr} {H : Hp} (h : a ≠ D) : hide D H a = H a := if_neg h
theorem hide_ex {D : Addr} {H : Hp} : Ex (hide D H) H := fun a o q => by
  unfold hide at q
  split at q
  · cases q
  · exact q
theorem hide_upd {D : Addr} {H : Hp} {o : HO} : hide D (upd H D o) = hide D H := by
  funext b
  unfold hide upd
  split <;> rfl
theorem hide_mono {D : Addr} {H H' : Hp} (e : Ex H H') : Ex (hide D H) (hide D H') := fun a o q => by
  unfold hide at q ⊢
  split at q
  · cases q
  · rename_i h
    rw [if_neg h]
    exact e a o q
/-- what stood when D was free is not at D -/
theorem hide_old {D : Addr} {H H' : Hp} (hD : H D = none) (e : Ex H H') : Ex H (hide D H') := fun a o q => by
  rw [hide_ne (ne_of_none q hD)]
  exact e a o q
end CW
/-! The parts: fractions. -/
namespace CW
open PySem PySem.Spec PyProof.Rows L2 Evl

/-- the greatest common divisor -/
def sp_divisor (K : PySem.W.Frag) : Sp := fun vs H Q _ => vs.length = 2 ∧ ∃ a b : Int, vs = [.int a, .int b] ∧ 0 ≤ a ∧ 0 ≤ b ∧ RetV (.int ((Int.gcd a b : Nat) : Int)) H Q
theorem gcd_step {x y : Int} (hx : 0 ≤ x) (hy : 0 ≤ y) : Int.gcd y (x.fmod y) = Int.gcd x y := by
  rw [Int.fmod_eq_emod_of_nonneg x hy]
  obtain ⟨m, rfl⟩ := Int.eq_ofNat_of_zero_le hx
  obtain ⟨n, rfl⟩ := Int.eq_ofNat_of_zero_le hy
  rw [← Int.natCast_emod, Int.gcd_natCast_natCast, Int.gcd_natCast_natCast, Nat.gcd_comm m n]
  exact (Nat.gcd_comm ..).trans (Nat.gcd_rec n m).symm
theorem s_par {i j : Nat} {ta : TA} {x y : V} {σ : L2.St} {H : Hp} {D : Ends} (h : EvA ta σ H [x, y]) (k : ∀ H1, Ex H H1 → D.nx ((σ.set i (some x)).set j (some y)) H1) : tPar i j ta D σ H := h H (Ex.refl H) _ fun H1 e => ⟨x, y, rfl, k H1 e⟩
theorem sc_divisor : FnScope ["one", "other"] ["one", "other"] (defScope (top 32)) := ⟨rfl, rfl, rfl, by decide +kernel, rfl, by decide +kernel, by decide +kernel⟩
theorem cal_divisor {P : Program} {w : World} {K : PySem.W.Frag} {mg : Str → Option Value} {base : Heap} (g : Glo K mg "divisor" (top 32)) (T : Txt K mg) : Cal P w K mg base 1 "divisor" (sp_divisor K) := by
  refine cal_by g sc_divisor (fun _ _ _ _ _ _ us hl => match us, hl with | [_, _], _ => rfl) (fun vs H Q E h => h.1) fun f cdv A outer s H vs Q E hr h => ?_
  have nd := sc_divisor.nd
  refine ⟨_, (pss_cons (ps_while PassesOwn.never (pt_cmpR op_ne (pv 1) pe_int (nomark _)) (pss_one (ps_par (i := 0) (j := 1) (by rfl) nd rfl rfl (by decide) rfl rfl (pa_cons (pv 1) (pa_cons (pe_op op_modN (pv 0) (pv 1)) pa_nil)) (by rfl))))
      (pss_one (ps_ret (pv 0)))), ?_⟩
  obtain ⟨_, a, b, rfl, ha, hb, hQ⟩ := h
  refine q_while (D := { nx := fun _ H' => Q .non H', rt := Q }) (fun m σ H' => ∃ x y : Int, σ = [some (.int x), some (.int y)] ∧ 0 ≤ x ∧ 0 ≤ y ∧ Int.gcd x y = Int.gcd a b ∧ m = y.toNat ∧ Ex H H') b.toNat ⟨a, b, rfl, ha, hb, rfl, rfl, Ex.refl H⟩ ?_
  rintro m σ H' ⟨x, y, rfl, hx, hy, hg, rfl, e⟩
  refine ⟨_, et_test (ev_op (ev_var rfl) ev_c (rv_ne rfl)), fun hn H1 e1 => ?_, fun hn H1 e1 => ?_⟩
  · have y0 : y ≠ 0 := fun z => by
      subst z
      exact absurd hn (by decide)
    refine ⟨_, fun σ2 H2 n => n, ?_⟩
    refine s_par (ea_cons (ev_var rfl) (ea_cons (ev_op (ev_var rfl) (ev_var rfl) (rv_I y0)) ea_nil)) fun H2 e2 => ?_
    have r0 : 0 ≤ x.fmod y := by
      rw [Int.fmod_eq_emod_of_nonneg x hy]
      exact Int.emod_nonneg x y0
    have r1 : x.fmod y < y := by
      rw [Int.fmod_eq_emod_of_nonneg x hy]
      exact Int.emod_lt_of_pos x (by omega)
    exact ⟨(x.fmod y).toNat, by omega, y, x.fmod y, rfl, hy, r0, (gcd_step hx hy).trans hg, rfl, (e.trans e1).trans e2⟩
  · have y0 : y = 0 := by
      by_cases z : y = 0
      · exact z
      · have : (!decide (V.int y = V.int 0)) = true := by
          rw [decide_eq_false (fun q => z (V.int.inj q))]
          rfl
        rw [hn] at this
        cases this
    subst y0
    refine s_ret (ev_var rfl) fun H2 e2 => ?_
    have e3 : ((Int.gcd a b : Nat) : Int) = x := by
      rw [← hg, Int.gcd_zero_right]
      omega
    have := hQ H2 ((e.trans e1).trans e2)
    rw [e3] at this
    exact this
/-- the fraction of two numbers, as a tuple that is new -/
def NewFr (H : Hp) (r : Rat) (Q : VK) : Prop := ∀ p H', H p = none → Ex H H' → H' p = some (.tup [.int r.num, .int r.den]) → Q (.ref p) H'
def sp_lowest (K : PySem.W.Frag) : Sp := fun vs H Q _ => vs.length = 2 ∧ ∃ u l : Int, vs = [.int u, .int l] ∧ 0 ≤ u ∧ 0 < l ∧ u.natAbs < 2 ^ 13500 ∧ l.natAbs < 2 ^ 13500 ∧ NewFr H (mkRat u l.toNat) Q
theorem low_num {u l : Int} (hl : 0 < l) : (mkRat u l.toNat).num = u / ((Int.gcd u l : Nat) : Int) := by
  rw [Rat.num_mkRat, if_neg (by omega), Nat.gcd_comm]
  have : l.toNat = l.natAbs := by omega
  rw [this]
  rfl
theorem low_den {u l : Int} (hl : 0 < l) : ((mkRat u l.toNat).den : Int) = l / ((Int.gcd u l : Nat) : Int) := by
  rw [Rat.den_mkRat, if_neg (by omega), Nat.gcd_comm]
  have : l.toNat = l.natAbs := by omega
  rw [this, Int.natCast_ediv]
  have e : (l.natAbs : Int) = l := by omega
  rw [e]
  rfl
theorem sc_lowest : FnScope ["upper", "lower", "common"] ["upper", "lower"] (defScope (top 33)) := ⟨rfl, rfl, rfl, by decide +kernel, rfl, by decide +kernel, by decide +kernel⟩
theorem cal_lowest {P : Program} {w : World} {K : PySem.W.Frag} {mg : Str → Option Value} {base : Heap} (g : Glo K mg "lowest" (top 33)) (T : Txt K mg) (c_divisor : Cal P w K mg base 1 "divisor" (sp_divisor K)) : Cal P w K mg base 2 "lowest" (sp_lowest K) := by
  refine cal_by g sc_lowest (fun _ _ _ _ _ _ us hl => match us, hl with | [_, _], _ => rfl) (fun vs H Q E h => h.1) fun f cdv A outer s H vs Q E hr h => ?_
  have nd := sc_lowest.nd
  refine ⟨_, (pss_cons (ps_set (i := 2) nd rfl (Or.inl rfl) (C8.pe_c c_divisor hr (by decide) rfl (pa_cons (pv 0) (pa_cons (pv 1) pa_nil))))
      (pss_one (ps_ret (pe_tup (pa_cons (pe_op op_fdivQ (pv 0) (pv 2)) (pa_cons (pe_op op_fdivQ (pv 1) (pv 2)) pa_nil)))))), ?_⟩
  obtain ⟨_, u, l, rfl, hu, hl, su, sl, hQ⟩ := h
  refine q_asg (ev_callV (ea_cons (ev_var rfl) (ea_cons (ev_var rfl) ea_nil)) (z := .int ((Int.gcd u l : Nat) : Int)) fun H1 e1 Q1 k1 E1 => ⟨rfl, u, l, rfl, hu, by omega, fun H2 e2 => k1 H2 e2⟩) fun H1 e1 => ?_
  have gp : 0 < ((Int.gcd u l : Nat) : Int) := by
    have : 0 < Int.gcd u l := Int.gcd_pos_of_ne_zero_right _ (by omega)
    omega
  refine s_retU (eu_tup (ea_cons (ev_op (ev_var rfl) (ev_var rfl) (rv_I ⟨gp, su⟩)) (ea_cons (ev_op (ev_var rfl) (ev_var rfl) (rv_I ⟨gp, sl⟩)) ea_nil)) (by show 2 ≤ 100000; decide)) fun p H2 hp e2 hx => ?_
  refine hQ p H2 (fresh_back e1 hp) (e1.trans e2) ?_
  rw [low_num hl, low_den hl]
  exact hx
/-- both numbers below 2 ^ m -/
def Sz (r : Rat) (m : Nat) : Prop := r.num.natAbs < 2 ^ m ∧ r.den < 2 ^ m
def sp_plus (K : PySem.W.Frag) : Sp := fun vs H Q _ => vs.length = 2 ∧ ∃ (v x : V) (a b : Rat) (m k : Nat), vs = [v, x] ∧ FrV K H v a ∧ FrV K H x b ∧ 0 ≤ a ∧ 0 ≤ b ∧ Sz a m ∧ Sz b k ∧ 0 < m ∧ 0 < k ∧ m + k + 1 ≤ 13500 ∧ NewFr H (a + b) Q
def sp_times (K : PySem.W.Frag) : Sp := fun vs H Q _ => vs.length = 2 ∧ ∃ (v x : V) (a b : Rat) (m k : Nat), vs = [v, x] ∧ FrV K H v a ∧ FrV K H x b ∧ 0 ≤ a ∧ 0 ≤ b ∧ Sz a m ∧ Sz b k ∧ 0 < m ∧ 0 < k ∧ m + k + 1 ≤ 13500 ∧ NewFr H (a * b) Q
def sp_is_above (K : PySem.W.Frag) : Sp := fun vs H Q _ => vs.length = 2 ∧ ∃ (v x : V) (a b : Rat) (m k : Nat), vs = [v, x] ∧ FrV K H v a ∧ FrV K H x b ∧ Sz a m ∧ Sz b k ∧ 0 < m ∧ 0 < k ∧ m ≤ 13500 ∧ k ≤ 13500 ∧ RetV (.bl (decide (b < a))) H Q
theorem num_nn {a : Rat} (h : 0 ≤ a) : 0 ≤ a.num := Rat.num_nonneg.mpr h
theorem mul_nat {m k : Nat} {x y : Int} (hx : x.natAbs < 2 ^ m) (hy : y.natAbs < 2 ^ k) : (x * y).natAbs < 2 ^ (m + k) := wide_lt hx hy
theorem add_eq (a b : Rat) : mkRat (a.num * b.den + b.num * a.den) (((a.den : Int) * b.den).toNat) = a + b := by
  have e : ((a.den : Int) * b.den).toNat = a.den * b.den := by
    rw [← Int.natCast_mul]
    exact Int.toNat_natCast _
  rw [e, Rat.add_def, Rat.normalize_eq_mkRat]
theorem mul_eq (a b : Rat) : mkRat (a.num * b.num) (((a.den : Int) * b.den).toNat) = a * b := by
  have e : ((a.den : Int) * b.den).toNat = a.den * b.den := by
    rw [← Int.natCast_mul]
    exact Int.toNat_natCast _
  rw [e, Rat.mul_def, Rat.normalize_eq_mkRat]
theorem pow_up {x : Int} {m n : Nat} (h : x.natAbs < 2 ^ m) (hn : m ≤ n) : x.natAbs < 2 ^ n := Nat.lt_of_lt_of_le h (Nat.pow_le_pow_right (by decide) hn)
theorem den_pos' (a : Rat) : (0 : Int) < a.den := by have := a.den_nz; omega
section
variable {K : PySem.W.Frag} {H : Hp} {σ : L2.St} {v x : V} {a b : Rat} {m k i : Nat}
/-- one of a fraction's two numbers -/
theorem ev_num {i : Nat} (hi : σ[i]? = some (some v)) (h : FrV K H v a) : Ev (tOp (rIxT K) (tVar i) (tC (.int 0))) σ H (.int a.num) := by
  obtain ⟨p, rfl, hp⟩ := h
  exact ev_op (ev_var hi) ev_c (rv_ixT hp rfl)
theorem ev_den {i : Nat} (hi : σ[i]? = some (some v)) (h : FrV K H v a) : Ev (tOp (rIxT K) (tVar i) (tC (.int 1))) σ H (.int a.den) := by
  obtain ⟨p, rfl, hp⟩ := h
  exact ev_op (ev_var hi) ev_c (rv_ixT hp rfl)
theorem den_sz (s : Sz a m) : ((a.den : Int)).natAbs < 2 ^ m := by
  rw [Int.natAbs_natCast]
  exact s.2
end
theorem sc_plus : FnScope ["one", "other"] ["one", "other"] (defScope (top 34)) := ⟨rfl, rfl, rfl, by decide +kernel, rfl, by decide +kernel, by decide +kernel⟩
theorem cal_plus {P : Program} {w : World} {K : PySem.W.Frag} {mg : Str → Option Value} {base : Heap} (g : Glo K mg "plus" (top 34)) (T : Txt K mg) (c_lowest : Cal P w K mg base 2 "lowest" (sp_lowest K)) : Cal P w K mg base 3 "plus" (sp_plus K) := by
  refine cal_by g sc_plus (fun _ _ _ _ _ _ us hl => match us, hl with | [_, _], _ => rfl) (fun vs H Q E h => h.1) fun f cdv A outer s H vs Q E hr h => ?_
  have nd := sc_plus.nd
  refine ⟨_, (pss_one (ps_ret (C8.pe_c c_lowest hr (by decide) rfl (pa_cons (pe_op op_add (pe_op op_mulW (pe_ix ix_tup (pv 0) pe_int (fun _ _ => rfl)) (pe_ix ix_tup (pv 1) pe_int (fun _ _ => rfl))) (pe_op op_mulW (pe_ix ix_tup (pv 1) pe_int (fun _ _ => rfl)) (pe_ix ix_tup (pv 0) pe_int (fun _ _ => rfl)))) (pa_cons (pe_op op_mulW (pe_ix ix_tup (pv 0) pe_int (fun _ _ => rfl)) (pe_ix ix_tup (pv 1) pe_int (fun _ _ => rfl))) pa_nil))))), ?_⟩
  obtain ⟨_, v, x, a, b, m, k, rfl, hv, hx, ha, hb, sa, sb, m0, k0, mk, hQ⟩ := h
  have n1 := wide_mul sa.1 (den_sz sb) m0 k0 (by omega)
  have n2 := wide_mul sb.1 (den_sz sa) k0 m0 (by omega)
  have n3 := wide_mul (den_sz sa) (den_sz sb) m0 k0 (by omega)
  refine s_retP (evp_callA (R := fun H1 H2 v => ∃ p, v = .ref p ∧ H1 p = none ∧ H2 p = some (.tup [.int (a + b).num, .int (a + b).den]))
    (ea_cons (ev_op (ev_op (ev_num rfl hv) (ev_den rfl hx) (rv_I n1)) (ev_op (ev_num rfl hx) (ev_den rfl hv) (rv_I n2)) rv_I0) (ea_cons (ev_op (ev_den rfl hv) (ev_den rfl hx) (rv_I n3)) ea_nil)) fun H1 e1 Q1 k1 E1 => ?_) fun z H1 e1 ⟨H0, e0, p, hz, hp, hx⟩ => ?_
  · refine ⟨rfl, _, _, rfl, ?_, ?_, ?_, ?_, fun p H2 hp e2 hx => ?_⟩
    · have := Int.mul_nonneg (num_nn ha) (Int.natCast_nonneg b.den)
      have := Int.mul_nonneg (num_nn hb) (Int.natCast_nonneg a.den)
      omega
    · exact Int.mul_pos (den_pos' a) (den_pos' b)
    · have q1 := mul_nat sa.1 (den_sz sb)
      have q2 := mul_nat sb.1 (den_sz sa)
      rw [Nat.add_comm k m] at q2
      have q3 : (a.num * (b.den : Int) + b.num * (a.den : Int)).natAbs < 2 ^ (m + k + 1) := by
        rw [Nat.pow_succ]
        have := Int.natAbs_add_le (a.num * (b.den : Int)) (b.num * (a.den : Int))
        omega
      exact pow_up q3 mk
    · exact pow_up (mul_nat (den_sz sa) (den_sz sb)) (by omega)
    · rw [add_eq] at hx
      exact k1 _ H2 e2 ⟨p, rfl, hp, hx⟩
  · subst hz
    exact hQ p H1 (fresh_back e0 hp) e1 hx
theorem sc_times : FnScope ["one", "other"] ["one", "other"] (defScope (top 35)) := ⟨rfl, rfl, rfl, by decide +kernel, rfl, by decide +kernel, by decide +kernel⟩
theorem cal_times {P : Program} {w : World} {K : PySem.W.Frag} {mg : Str → Option Value} {base : Heap} (g : Glo K mg "times" (top 35)) (T : Txt K mg) (c_lowest : Cal P w K mg base 2 "lowest" (sp_lowest K)) : Cal P w K mg base 3 "times" (sp_times K) := by
  refine cal_by g sc_times (fun _ _ _ _ _ _ us hl => match us, hl with | [_, _], _ => rfl) (fun vs H Q E h => h.1) fun f cdv A outer s H vs Q E hr h => ?_
  have nd := sc_times.nd
  refine ⟨_, (pss_one (ps_ret (C8.pe_c c_lowest hr (by decide) rfl (pa_cons (pe_op op_mulW (pe_ix ix_tup (pv 0) pe_int (fun _ _ => rfl)) (pe_ix ix_tup (pv 1) pe_int (fun _ _ => rfl))) (pa_cons (pe_op op_mulW (pe_ix ix_tup (pv 0) pe_int (fun _ _ => rfl)) (pe_ix ix_tup (pv 1) pe_int (fun _ _ => rfl))) pa_nil))))), ?_⟩
  obtain ⟨_, v, x, a, b, m, k, rfl, hv, hx, ha, hb, sa, sb, m0, k0, mk, hQ⟩ := h
  have n1 := wide_mul sa.1 sb.1 m0 k0 (by omega)
  have n3 := wide_mul (den_sz sa) (den_sz sb) m0 k0 (by omega)
  refine s_retP (evp_callA (R := fun H1 H2 v => ∃ p, v = .ref p ∧ H1 p = none ∧ H2 p = some (.tup [.int (a * b).num, .int (a * b).den]))
    (ea_cons (ev_op (ev_num rfl hv) (ev_num rfl hx) (rv_I n1)) (ea_cons (ev_op (ev_den rfl hv) (ev_den rfl hx) (rv_I n3)) ea_nil)) fun H1 e1 Q1 k1 E1 => ?_) fun z H1 e1 ⟨H0, e0, p, hz, hp, hx⟩ => ?_
  · refine ⟨rfl, _, _, rfl, ?_, ?_, ?_, ?_, fun p H2 hp e2 hx => ?_⟩
    · exact Int.mul_nonneg (num_nn ha) (num_nn hb)
    · exact Int.mul_pos (den_pos' a) (den_pos' b)
    · exact pow_up (mul_nat sa.1 sb.1) (by omega)
    · exact pow_up (mul_nat (den_sz sa) (den_sz sb)) (by omega)
    · rw [mul_eq] at hx
      exact k1 _ H2 e2 ⟨p, rfl, hp, hx⟩
  · subst hz
    exact hQ p H1 (fresh_back e0 hp) e1 hx
theorem sc_is_above : FnScope ["one", "other"] ["one", "other"] (defScope (top 36)) := ⟨rfl, rfl, rfl, by decide +kernel, rfl, by decide +kernel, by decide +kernel⟩
theorem cal_is_above {P : Program} {w : World} {K : PySem.W.Frag} {mg : Str → Option Value} {base : Heap} (g : Glo K mg "is_above" (top 36)) (T : Txt K mg) : Cal P w K mg base 1 "is_above" (sp_is_above K) := by
  refine cal_by g sc_is_above (fun _ _ _ _ _ _ us hl => match us, hl with | [_, _], _ => rfl) (fun vs H Q E h => h.1) fun f cdv A outer s H vs Q E hr h => ?_
  have nd := sc_is_above.nd
  refine ⟨_, (pss_one (ps_ret (pe_cmpR op_gt (pe_op op_mulW (pe_ix ix_tup (pv 0) pe_int (fun _ _ => rfl)) (pe_ix ix_tup (pv 1) pe_int (fun _ _ => rfl))) (pe_op op_mulW (pe_ix ix_tup (pv 1) pe_int (fun _ _ => rfl)) (pe_ix ix_tup (pv 0) pe_int (fun _ _ => rfl))) (nomark _)))), ?_⟩
  obtain ⟨_, v, x, a, b, m, k, rfl, hv, hx, sa, sb, m0, k0, mk, kk, hQ⟩ := h
  have n1 := wide_mul sa.1 (den_sz sb) m0 k0 (by omega)
  have n2 := wide_mul sb.1 (den_sz sa) k0 m0 (by omega)
  refine s_ret (ev_op (ev_op (ev_num rfl hv) (ev_den rfl hx) (rv_I n1)) (ev_op (ev_num rfl hx) (ev_den rfl hv) (rv_I n2)) rv_I0) fun H1 e1 => ?_
  have e : decide (b.num * (a.den : Int) < a.num * (b.den : Int)) = decide (b < a) := decide_eq_decide.mpr (Rat.lt_iff b a).symm
  have := hQ H1 e1
  rw [← e] at this
  exact this
end CW
/-! Comprehensions and appends by predicates; the solving. -/
namespace CW
open PySem PySem.Spec PyProof.Rows L2 Evl
section
variable {K : PySem.W.Frag} {σ : L2.St} {H : Hp} {te ta : TE} {R : Hp → Hp → V → Prop} {D : Ends}
theorem s_appP {l : Addr} {xs : List V} (hl : H l = some (.lst xs)) (ha : Ev ta σ H (.ref l)) (h : EvP te σ H R) (hz : xs.length < 100000) (k : ∀ v H0 H1, Ex H H0 → Ex H0 H1 → R H0 H1 v → D.nx σ (upd H1 l (.lst (xs ++ [v])))) :
    tDrop (tBM K "list" rAppend ta (tCons te tNil)) D σ H := ha H (Ex.refl H) _ fun H1 e1 =>
  ⟨Or.inl ⟨rfl, xs, sq_of (e1 l _ hl)⟩, h H1 e1 _ fun v H2 e2 r => ⟨l, xs, v, rfl, rfl, e2 l _ (e1 l _ hl), sz_lt hz, k v H1 H2 e1 e2 r⟩⟩
theorem q_appP {l : Addr} {xs : List V} {tz : TS} (hl : H l = some (.lst xs)) (ha : Ev ta σ H (.ref l)) (h : EvP te σ H R) (hz : xs.length < 100000) (k : ∀ v H0 H1, Ex H H0 → Ex H0 H1 → R H0 H1 v → tz D σ (upd H1 l (.lst (xs ++ [v])))) :
    tSeq (tDrop (tBM K "list" rAppend ta (tCons te tNil))) tz D σ H := s_appP (D := { D with nx := tz D }) hl ha h hz k
/-- a fraction is not at a list's place -/
theorem FrV.hide {K : PySem.W.Frag} {H : Hp} {v : V} {r : Rat} {Dl : Addr} {acc : List V} (h : FrV K H v r) (hD : H Dl = some (.lst acc)) : FrV K (hide Dl H) v r := by
  obtain ⟨a, hv, q⟩ := h
  refine ⟨a, hv, ?_⟩
  have ne : ∀ o, H a = some o → o ≠ .lst acc → a ≠ Dl := fun o h1 h2 z => by
    rw [z, hD] at h1
    exact h2 (Option.some.inj h1).symm
  rcases q with (q | ⟨o, q⟩) | q
  · exact .inl (.inl (by rw [hide_ne (ne _ q (fun z => nomatch z))]; exact q))
  · exact .inl (.inr ⟨o, by rw [hide_ne (ne _ q (fun z => nomatch z))]; exact q⟩)
  · exact .inr q
/-- a new list of things -/
def NewL (Rel : Nat → Hp → V → Prop) (n : Nat) (Ha Hb : Hp) (v : V) : Prop := ∃ p ws, v = .ref p ∧ Ha p = none ∧ Hb p = some (.lst ws) ∧ ws.length = n ∧ ∀ i w, ws[i]? = some w → Rel i Hb w
theorem getElem_snoc {α : Type} {l : List α} {a w : α} {i : Nat} (h : (l ++ [a])[i]? = some w) : l[i]? = some w ∨ (i = l.length ∧ w = a) := by
  by_cases c : i < l.length
  · rw [List.getElem?_append_left c] at h
    exact .inl h
  · rw [List.getElem?_append_right (by omega)] at h
    by_cases e : i = l.length
    · subst e
      rw [Nat.sub_self] at h
      exact .inr ⟨rfl, (Option.some.inj h).symm⟩
    · rw [List.getElem?_eq_none (by rw [List.length_singleton]; omega)] at h
      cases h
theorem evp_lcR1 {tA : TA} {j : Nat} {vs : List Nat} {n : Int} (Rel : Nat → Hp → V → Prop) (mono : ∀ i Ha Hb v, Ex Ha Hb → Rel i Ha v → Rel i Hb v) (h : EvA tA σ H [.int n]) (hn : 0 ≤ n ∧ n ≤ 40000) (hw : ∀ x, wipe ((wipe σ vs).set j (some x)) vs = wipe σ vs)
    (he : ∀ (i : Nat) H1, Ex H H1 → (i : Int) < n → EvP te ((wipe σ vs).set j (some (.int (i : Int)))) H1 (fun Ha Hb v => ∀ Dl acc, H1 Dl = none → Ha Dl = some (.lst acc) → Ex Ha Hb → Rel i (hide Dl Hb) v)) :
    EvP (tLc (iRng1 tA) (gName j) tYes te vs) σ H (NewL Rel n.toNat) := fun H0 e Q q => h H0 e _ fun H1 e1 => ⟨n, rfl, by omega, by omega, fun Dl hD =>
  lc_range (lo := 0) (n := n.toNat) (fun i H' => Ex H1 H' ∧ ∃ ws, H' Dl = some (.lst ws) ∧ ws.length = i ∧ ∀ k w, ws[k]? = some w → Rel k (hide Dl H') w) ⟨Ex.new hD, [], upd_same, rfl, fun k w hk => by simp at hk⟩ (fun i H' hi p => by
    obtain ⟨p1, ws, p2, p3, p4⟩ := p
    have e0 : (0 : Int) + (i : Int) = (i : Int) := Int.zero_add _
    show wipe ((wipe σ vs).set j (some (.int ((0 : Int) + (i : Int))))) vs = wipe σ vs ∧ te ((wipe σ vs).set j (some (.int ((0 : Int) + (i : Int))))) H' fun y H4 => ∃ acc, H4 Dl = some (.lst acc) ∧ acc.length < sizeLine ∧ _
    rw [e0]
    refine ⟨hw _, he i H1 (e.trans e1) (by omega) H' p1 _ fun v H4 e4 r => ⟨ws, e4 _ _ p2, sz_lt (by omega), Ex.mut (p1.trans e4) hD, ws ++ [v], upd_same, by rw [List.length_append, p3]; rfl, fun k w hk => ?_⟩⟩
    rw [hide_upd]
    rcases getElem_snoc hk with z | ⟨z1, z2⟩
    · exact mono _ _ _ _ (hide_mono e4) (p4 k w z)
    · rw [z1, z2, p3]
      exact r Dl _ hD p2 e4) (fun H' p => by
    obtain ⟨p1, ws, p2, p3, p4⟩ := p
    exact q _ H' (e1.trans p1) ⟨Dl, ws, rfl, fresh_back e1 hD, p2, p3, fun k w hk => mono _ _ _ _ hide_ex (p4 k w hk)⟩)⟩
theorem evp_lcL {a : Addr} {xs : List V} {tl : TE} {j : Nat} {vs : List Nat} (Rel : Nat → Hp → V → Prop) (mono : ∀ i Ha Hb v, Ex Ha Hb → Rel i Ha v → Rel i Hb v) (h : Ev tl σ H (.ref a)) (hx : SqL K H a xs) (hz : xs.length ≤ 40000) (hw : ∀ x, wipe ((wipe σ vs).set j (some x)) vs = wipe σ vs)
    (he : ∀ (i : Nat) (x : V) H1, Ex H H1 → xs[i]? = some x → EvP te ((wipe σ vs).set j (some x)) H1 (fun Ha Hb v => ∀ Dl acc, H1 Dl = none → Ha Dl = some (.lst acc) → Ex Ha Hb → Rel i (hide Dl Hb) v)) :
    EvP (tLc (iList K tl) (gName j) tYes te vs) σ H (NewL Rel xs.length) := fun H0 e Q q => h H0 e _ fun H1 e1 => ⟨a, rfl, ⟨xs, ex_l (e.trans e1) hx⟩, fun Dl hD =>
  lc_list (xs := xs) (fun i H' => Ex H1 H' ∧ ∃ ws, H' Dl = some (.lst ws) ∧ ws.length = i ∧ ∀ k w, ws[k]? = some w → Rel k (hide Dl H') w) ⟨Ex.new hD, [], upd_same, rfl, fun k w hk => by simp at hk⟩ (fun i H' _ p => ex_l ((e.trans e1).trans p.1) hx) (fun i x H' hi p => by
    obtain ⟨p1, ws, p2, p3, p4⟩ := p
    have hlt := (List.getElem?_eq_some_iff.mp hi).1
    show wipe ((wipe σ vs).set j (some x)) vs = wipe σ vs ∧ te ((wipe σ vs).set j (some x)) H' fun y H4 => ∃ acc, H4 Dl = some (.lst acc) ∧ acc.length < sizeLine ∧ _
    refine ⟨hw _, he i x H1 (e.trans e1) hi H' p1 _ fun v H4 e4 r => ⟨ws, e4 _ _ p2, sz_lt (by omega), Ex.mut (p1.trans e4) hD, ws ++ [v], upd_same, by rw [List.length_append, p3]; rfl, fun k w hk => ?_⟩⟩
    rw [hide_upd]
    rcases getElem_snoc hk with z | ⟨z1, z2⟩
    · exact mono _ _ _ _ (hide_mono e4) (p4 k w z)
    · rw [z1, z2, p3]
      exact r Dl _ hD p2 e4) (fun H' p => by
    obtain ⟨p1, ws, p2, p3, p4⟩ := p
    exact q _ H' (e1.trans p1) ⟨Dl, ws, rfl, fresh_back e1 hD, p2, p3, fun k w hk => mono _ _ _ _ hide_ex (p4 k w hk)⟩)⟩
/-- over zip of two lists of one length, plain values -/
theorem el_lcZ {a b : Addr} {xs ys : List V} {tA : TA} {j1 j2 : Nat} {vs : List Nat} (v : Nat → V) (h : EvA tA σ H [.ref a, .ref b]) (hx : SqL K H a xs) (hy : SqL K H b ys) (hl : xs.length = ys.length) (hz : xs.length ≤ 40000)
    (hw : ∀ x y, wipe (((wipe σ vs).set j1 (some x)).set j2 (some y)) vs = wipe σ vs)
    (he : ∀ (i : Nat) (x y : V) H1, Ex H H1 → xs[i]? = some x → ys[i]? = some y → Ev te (((wipe σ vs).set j1 (some x)).set j2 (some y)) H1 (v i)) :
    EvL (tLc (iZip K tA) (gTup K 2 (gCons (gName j1) (gCons (gName j2) gNil))) tYes te vs) σ H ((List.range xs.length).map v) := fun H0 e Q q => h H0 e _ fun H1 e1 => ⟨a, b, xs, ys, rfl, ex_l (e.trans e1) hx, ex_l (e.trans e1) hy, fun Dl hD =>
  lc_it (walk_zip (n := xs.length) (xs := xs) (ys := ys) (by omega)) (fun i H' => Ex H1 H' ∧ H' Dl = some (.lst ((List.range i).map v))) ⟨Ex.new hD, upd_same⟩ (fun i H' _ p => ⟨ex_l ((e.trans e1).trans p.1) hx, ex_l ((e.trans e1).trans p.1) hy⟩)
    (fun i x Ha Hb hi p y => by
      obtain ⟨p1, p2⟩ := p
      obtain ⟨T, x1, x2, rfl, hT, rfl, g1, g2⟩ := y
      have e3 : Ex Ha (upd Ha T (.tup [x1, x2])) := Ex.new hT
      refine ⟨T, [x1, x2], rfl, st_of upd_same, rfl, x1, [x2], rfl, x2, [], rfl, rfl, hw _ _, ?_⟩
      show te _ _ fun y H4 => ∃ acc, H4 Dl = some (.lst acc) ∧ acc.length < sizeLine ∧ _
      refine he i x1 x2 H1 (e.trans e1) g1 g2 _ (p1.trans e3) _ fun H4 e4 => ⟨_, e4 _ _ (e3 _ _ p2), sz_lt (by rw [List.length_map, List.length_range]; omega), Ex.mut ((p1.trans e3).trans e4) hD, ?_⟩
      rw [upd_same, List.range_succ, List.map_append]
      rfl)
    (fun H' p => q Dl H' (fresh_back e1 hD) (e1.trans p.1) p.2)⟩
theorem et_yes : EvT tYes σ H true := fun H1 _ _ q => q H1 (Ex.refl H1)
theorem given_all (n : Nat) (v : Nat → V) : given n (fun _ => true) v = (List.range n).map v := by
  unfold given
  rw [List.filter_eq_self.mpr fun _ _ => rfl]
theorem map_range_getD (xs : List Int) : (List.range xs.length).map (fun i => xs.getD i 0) = xs := by
  refine List.ext_getElem (by rw [List.length_map, List.length_range]) fun i h1 h2 => ?_
  rw [List.getElem_map, List.getElem_range, List.getD_eq_getElem?_getD, List.getElem?_eq_getElem h2]
  rfl
theorem map_range_f {β : Type} (xs : List Int) (f : Int → β) : (List.range xs.length).map (fun i => f (xs.getD i 0)) = xs.map f := by
  conv => rhs; rw [← map_range_getD xs]
  rw [List.map_map]
  rfl
theorem getD_some {xs : List Int} {i : Nat} (h : i < xs.length) : xs[i]? = some (xs.getD i 0) := by
  rw [List.getD_eq_getElem?_getD, List.getElem?_eq_getElem h]
  rfl
theorem map_some {xs : List Int} {i : Nat} {x : V} (h : (xs.map V.int)[i]? = some x) : xs[i]? = some (xs.getD i 0) ∧ x = .int (xs.getD i 0) ∧ i < xs.length := by
  rw [List.getElem?_map] at h
  have hi : i < xs.length := by
    by_cases c : i < xs.length
    · exact c
    · rw [List.getElem?_eq_none (by omega)] at h
      cases h
  have e := getD_some hi
  rw [e] at h
  exact ⟨e, (Option.some.inj h).symm, hi⟩
theorem take_snoc' {xs : List Int} {i : Nat} {x : Int} (h : xs[i]? = some x) : xs.take (i + 1) = xs.take i ++ [x] := by
  obtain ⟨h1, h2⟩ := List.getElem?_eq_some_iff.mp h
  rw [← h2]
  exact (List.take_append_getElem h1).symm
end
/-- a new list of these ints -/
def NewI (H : Hp) (xs : List Int) (Q : VK) : Prop := ∀ p H', H p = none → Ex H H' → H' p = some (.lst (xs.map V.int)) → Q (.ref p) H'
def sp_lessened (K : PySem.W.Frag) : Sp := fun vs H Q _ => vs.length = 1 ∧ ∃ (v : V) (row : List Int), vs = [v] ∧ LI H v row ∧ row.length ≤ 1000 ∧ 0 < CN.gcdRow row ∧ (∀ x ∈ row, x.natAbs < 2 ^ 13500) ∧ NewI H (CN.lessened row) Q
def gcdTake (row : List Int) (i : Nat) : Int := (row.take i).foldl (fun g x => ((Int.gcd g x : Nat) : Int)) 0
theorem gcdTake_succ {row : List Int} {i : Nat} {x : Int} (h : row[i]? = some x) : gcdTake row (i + 1) = ((Int.gcd (gcdTake row i) x : Nat) : Int) := by
  unfold gcdTake
  rw [take_snoc' h, List.foldl_append]
  rfl
theorem gcdTake_nn (row : List Int) (i : Nat) : 0 ≤ gcdTake row i := CN.gcdRow_acc_nn _ 0 (Int.le_refl _)
theorem abs_if (x : Int) : 0 ≤ (if x < 0 then -x else x) ∧ ∀ g, Int.gcd g (if x < 0 then -x else x) = Int.gcd g x := by
  split
  · exact ⟨by omega, fun g => Int.gcd_neg⟩
  · exact ⟨by omega, fun g => rfl⟩
theorem sc_lessened : FnScope ["row", "common", "one"] ["row"] (defScope (top 38)) := ⟨rfl, rfl, rfl, by decide +kernel, rfl, by decide +kernel, by decide +kernel⟩
theorem cal_lessened {P : Program} {w : World} {K : PySem.W.Frag} {mg : Str → Option Value} {base : Heap} (g : Glo K mg "lessened" (top 38)) (T : Txt K mg) (c_divisor : Cal P w K mg base 1 "divisor" (sp_divisor K)) : Cal P w K mg base 2 "lessened" (sp_lessened K) := by
  refine cal_by g sc_lessened (fun _ _ _ _ _ _ us hl => match us, hl with | [_], _ => rfl) (fun vs H Q E h => h.1) fun f cdv A outer s H vs Q E hr h => ?_
  have nd := sc_lessened.nd
  refine ⟨_, (pss_cons (ps_set (i := 1) nd rfl (Or.inr rfl) pe_int)
      (pss_cons (ps_for PassesOwn.never rfl (pi_list (pv 0)) (pg_name (i := 2) nd rfl (Or.inl rfl)) (pss_one (ps_set (i := 1) nd rfl (Or.inr rfl) (C8.pe_c c_divisor hr (by decide) rfl (pa_cons (pv 1) (pa_cons (pe_callB call_abs (by rfl) T.abs (by decide +kernel) (pa_cons (pv 2) pa_nil)) pa_nil))))))
      (pss_one (ps_ret (pe_lc (own := [("one", 2)]) rfl nd (pi_list (pv 0)) (blkOk_by (own := [("one", 2)]) (N := ["row", "common", "one"]) (sc := defScope (top 38)) (by decide +kernel)) (fun _ _ _ _ _ => by exact (pg_name (i := 2) nd rfl (Or.inl rfl))) (fun _ _ _ _ _ => by exact pts_nil) (fun _ _ _ _ _ => by exact (pe_op op_fdivQ (pv 2) (pv 1)))))))), ?_⟩
  obtain ⟨_, v, row, rfl, ⟨a, rfl, ha⟩, hl, hg, hs, hQ⟩ := h
  refine q_asg ev_c fun H1 e1 => ?_
  refine q_forLn (xs := row.map V.int) (ev_var rfl) (sq_of (e1 _ _ ha)) (fun i σ H' => ∃ z : Option V, σ = [some (.ref a), some (.int (gcdTake row i)), z] ∧ Ex H H') (fun H2 e2 => ⟨none, rfl, e1.trans e2⟩) (fun i σ H' _ ⟨z, _, e⟩ => sq_of (e _ _ ha)) ?_ ?_
  · rintro i x σ H' hx ⟨z, rfl, e⟩
    obtain ⟨h1, rfl, h2⟩ := map_some hx
    obtain ⟨n1, n2⟩ := abs_if (row.getD i 0)
    refine s_asg (ev_callV (z := .int (gcdTake row (i + 1))) (ea_cons (ev_var rfl) (ea_cons (ev_cb (z := .int (if row.getD i 0 < 0 then -row.getD i 0 else row.getD i 0)) (ea_cons (ev_var rfl) ea_nil) fun H2 e2 Q2 k2 => ⟨_, rfl, k2 H2 (Ex.refl H2)⟩) ea_nil)) fun H2 e2 Q2 k2 E2 => ⟨rfl, _, _, rfl, gcdTake_nn _ _, n1, fun H3 e3 => ?_⟩) fun H2 e2 => ⟨_, rfl, e.trans e2⟩
    rw [n2, ← gcdTake_succ h1]
    exact k2 H3 e3
  · rintro σ H' ⟨z, rfl, e⟩
    rw [List.length_map]
    have eg : gcdTake row row.length = CN.gcdRow row := by
      unfold gcdTake
      rw [List.take_length]
      rfl
    rw [eg]
    refine s_retL (el_lcL (xs := row.map V.int) (fun _ => true) (fun i => .int (row.getD i 0 / CN.gcdRow row)) (ev_var rfl) (sq_of (e _ _ ha)) (by rw [List.length_map]; omega) (fun _ => rfl) (fun i x H2 _ _ => et_yes) (fun i x H2 e2 hx _ => ?_)) fun p H2 hp e2 hx => ?_
    · obtain ⟨h1, rfl, h2⟩ := map_some hx
      exact ev_op (ev_var rfl) (ev_var rfl) (rv_I ⟨hg, hs _ (List.mem_of_getElem? h1)⟩)
    · refine hQ p H2 (fresh_back e hp) (e.trans e2) ?_
      rw [given_all, List.length_map, map_range_f row fun x => V.int (x / CN.gcdRow row)] at hx
      rw [hx]
      unfold CN.lessened
      rw [List.map_map]
      rfl
def sp_without (K : PySem.W.Frag) : Sp := fun vs H Q _ => vs.length = 3 ∧ ∃ (v x : V) (row pivot : List Int) (k : Nat), vs = [v, x, .int k] ∧ LI H v row ∧ LI H x pivot ∧ row.length = pivot.length ∧ row.length ≤ 1000 ∧ k < row.length ∧ (∀ y ∈ row, y.natAbs < 2 ^ 13500) ∧ (∀ y ∈ pivot, y.natAbs < 2 ^ 13500) ∧ NewI H (CN.without row pivot k) Q
theorem get_mem {xs : List Int} {i : Nat} (h : i < xs.length) : xs.getD i 0 ∈ xs := List.mem_of_getElem? (getD_some h)
theorem atI_some {xs : List Int} {k : Nat} (h : k < xs.length) : atI (xs.map V.int) (k : Int) = some (.int (xs.getD k 0)) := atI_nat (by rw [List.getElem?_map, getD_some h]; rfl)
theorem sc_without : FnScope ["row", "pivot", "at", "here", "there", "one", "other"] ["row", "pivot", "at"] (defScope (top 39)) := ⟨rfl, rfl, rfl, by decide +kernel, rfl, by decide +kernel, by decide +kernel⟩
theorem cal_without {P : Program} {w : World} {K : PySem.W.Frag} {mg : Str → Option Value} {base : Heap} (g : Glo K mg "without" (top 39)) (T : Txt K mg) : Cal P w K mg base 1 "without" (sp_without K) := by
  refine cal_by g sc_without (fun _ _ _ _ _ _ us hl => match us, hl with | [_, _, _], _ => rfl) (fun vs H Q E h => h.1) fun f cdv A outer s H vs Q E hr h => ?_
  have nd := sc_without.nd
  refine ⟨_, (pss_cons (ps_set (i := 3) nd rfl (Or.inr rfl) (pe_ix ix_list (pv 0) (pv 2) (fun _ _ => rfl)))
      (pss_cons (ps_set (i := 4) nd rfl (Or.inr rfl) (pe_ix ix_list (pv 1) (pv 2) (fun _ _ => rfl)))
      (pss_one (ps_ret (pe_lc (own := [("one", 5), ("other", 6)]) (g := gTup K 2 (gCons (gName 5) (gCons (gName 6) gNil))) rfl nd (pi_zip (by rfl) T.zip (pa_cons (pv 0) (pa_cons (pv 1) pa_nil))) (blkOk_by (own := [("one", 5), ("other", 6)]) (N := ["row", "pivot", "at", "here", "there", "one", "other"]) (sc := defScope (top 39)) (by decide +kernel)) (fun _ _ _ _ _ => by exact (pg_tup rfl (pgs_cons (pg_name (i := 5) nd rfl (Or.inl rfl)) (pgs_cons (pg_name (i := 6) nd rfl (Or.inl rfl)) pgs_nil)))) (fun _ _ _ _ _ => by exact pts_nil) (fun _ _ _ _ _ => by exact (pe_op op_sub (pe_op op_mulW (pv 5) (pv 4)) (pe_op op_mulW (pv 6) (pv 3))))))))), ?_⟩
  obtain ⟨_, v, x, row, pivot, k, rfl, ⟨a, rfl, ha⟩, ⟨b, rfl, hb⟩, hl, hn, hk, s1, s2, hQ⟩ := h
  refine q_asg (ev_op (ev_var rfl) (ev_var rfl) (rv_ixL (sq_of ha) (atI_some hk))) fun H1 e1 => ?_
  refine q_asg (ev_op (ev_var rfl) (ev_var rfl) (rv_ixL (sq_of (e1 _ _ hb)) (atI_some (by omega)))) fun H2 e2 => ?_
  have e := e1.trans e2
  have n1 := s2 _ (get_mem (xs := pivot) (i := k) (by omega))
  have n2 := s1 _ (get_mem hk)
  refine s_retL (el_lcZ (xs := row.map V.int) (ys := pivot.map V.int) (fun i => .int (row.getD i 0 * pivot.getD k 0 - pivot.getD i 0 * row.getD k 0)) (ea_cons (ev_var rfl) (ea_cons (ev_var rfl) ea_nil)) (sq_of (e _ _ ha)) (sq_of (e _ _ hb)) (by rw [List.length_map, List.length_map, hl]) (by rw [List.length_map]; omega) (fun _ _ => rfl)
    fun i x y H3 e3 hx hy => ?_) fun p H3 hp e3 hx => ?_
  · obtain ⟨h1, rfl, h2⟩ := map_some hx
    obtain ⟨h3, rfl, h4⟩ := map_some hy
    exact ev_op (ev_op (ev_var rfl) (ev_var rfl) (rv_I (wide_mul (s1 _ (get_mem h2)) n1 (by decide) (by decide) (by decide)))) (ev_op (ev_var rfl) (ev_var rfl) (rv_I (wide_mul (s2 _ (get_mem h4)) n2 (by decide) (by decide) (by decide)))) rv_I0
  · refine hQ p H3 (fresh_back e hp) (e.trans e3) ?_
    rw [hx]
    congr 1
    congr 1
    refine List.ext_getElem? fun i => ?_
    rw [List.getElem?_map, List.getElem?_map, List.length_map]
    by_cases c : i < row.length
    · rw [List.getElem?_range c]
      have e4 := CN.without_get (row := row) (pivot := pivot) (k := k) (j := i) rfl hl.symm c
      have e5 := getD_some (xs := CN.without row pivot k) (i := i) (by rw [CN.without_len rfl hl.symm]; exact c)
      rw [e5, e4]
      rfl
    · rw [List.getElem?_eq_none (by rw [List.length_range]; omega), List.getElem?_eq_none (by rw [CN.without_len rfl hl.symm]; omega)]
      rfl
/-! ### lists of lists -/
theorem evp_call1 {σ : L2.St} {H : Hp} {te : TE} {R1 R2 : Hp → Hp → V → Prop} {sp : Sp} {E : XK} (h : EvP te σ H R1) (hs : ∀ v H1 H2, Ex H H1 → Ex H1 H2 → R1 H1 H2 v → SpP sp [v] H2 R2) : EvP (tCall sp [] E (tCons te tNil)) σ H (fun H1 H4 v => ∃ H0, Ex H1 H0 ∧ R2 H0 H4 v) :=
  fun H1 e Q q => h H1 e _ fun v H2 e2 r => hs v H1 H2 e e2 r H2 (Ex.refl H2) Q (fun v' H4 e4 r4 => q v' H4 (e2.trans e4) ⟨H2, e2, r4⟩) E
/-- a list of lists of ints that is new -/
def NewR (H : Hp) (xss : List (List Int)) (Q : VK) : Prop := ∀ p H', H p = none → Ex H H' → LR H' (.ref p) xss → Q (.ref p) H'
theorem LR.row {H : Hp} {a : Addr} {vs : List V} {xss : List (List Int)} (h2 : H a = some (.lst vs)) (h3 : All2 (LI H) vs xss) {i : Nat} (hi : i < xss.length) : ∃ b, atI vs (i : Int) = some (.ref b) ∧ vs[i]? = some (.ref b) ∧ H b = some (.lst ((xss.getD i []).map V.int)) := by
  have h4 : vs[i]? = some (vs[i]'(by rw [h3.1]; exact hi)) := List.getElem?_eq_getElem _
  have h5 : xss[i]? = some (xss.getD i []) := by
    rw [List.getD_eq_getElem?_getD, List.getElem?_eq_getElem hi]
    rfl
  obtain ⟨b, hb, hb2⟩ := h3.2 i _ _ h4 h5
  exact ⟨b, by rw [← hb]; exact atI_nat h4, by rw [h4, hb], hb2⟩
/-- xss[i], xss[i][j] -/
theorem ev_row {K : PySem.W.Frag} {σ : L2.St} {H : Hp} {a b : Addr} {vs : List V} {i : Nat} {ta tb : TE} (ha : Ev ta σ H (.ref a)) (hb : Ev tb σ H (.int (i : Int))) (h2 : H a = some (.lst vs)) (h : atI vs (i : Int) = some (.ref b)) : Ev (tOp (rIxL K) ta tb) σ H (.ref b) :=
  ev_op ha hb (rv_ixL (sq_of h2) h)
theorem ev_cell {K : PySem.W.Frag} {σ : L2.St} {H : Hp} {b : Addr} {xs : List Int} {j : Nat} {ta tb : TE} (ha : Ev ta σ H (.ref b)) (hb : Ev tb σ H (.int (j : Int))) (h2 : H b = some (.lst (xs.map V.int))) (hj : j < xs.length) : Ev (tOp (rIxL K) ta tb) σ H (.int (xs.getD j 0)) :=
  ev_op ha hb (rv_ixL (sq_of h2) (atI_some hj))
def sp_cleared (K : PySem.W.Frag) : Sp := fun vs H Q _ => vs.length = 2 ∧ ∃ (v : V) (rows : List (List Int)) (n k : Nat), vs = [v, .int k] ∧ LR H v rows ∧ n ≤ 200 ∧ CN.ClearOk n rows k ∧ NewR H (CN.cleared rows k) Q
theorem or_int {i k e : Int} : (decide (V.int i = V.int k) || decide (V.int e = V.int 0)) = decide (i = k ∨ e = 0) := by
  have e1 : decide (V.int i = V.int k) = decide (i = k) := decide_eq_decide.mpr ⟨fun h => V.int.inj h, fun h => by rw [h]⟩
  have e2 : decide (V.int e = V.int 0) = decide (e = 0) := decide_eq_decide.mpr ⟨fun h => V.int.inj h, fun h => by rw [h]⟩
  rw [e1, e2, Bool.decide_or]
theorem sc_cleared : FnScope ["rows", "at", "found", "number"] ["rows", "at"] (defScope (top 40)) := ⟨rfl, rfl, rfl, by decide +kernel, rfl, by decide +kernel, by decide +kernel⟩
theorem cal_cleared {P : Program} {w : World} {K : PySem.W.Frag} {mg : Str → Option Value} {base : Heap} (g : Glo K mg "cleared" (top 40)) (T : Txt K mg) (c_lessened : Cal P w K mg base 2 "lessened" (sp_lessened K)) (c_without : Cal P w K mg base 1 "without" (sp_without K)) : Cal P w K mg base 3 "cleared" (sp_cleared K) := by
  refine cal_by g sc_cleared (fun _ _ _ _ _ _ us hl => match us, hl with | [_, _], _ => rfl) (fun vs H Q E h => h.1) fun f cdv A outer s H vs Q E hr h => ?_
  have nd := sc_cleared.nd
  refine ⟨_, (pss_cons (ps_set (i := 2) nd rfl (Or.inl rfl) (pe_lst pa_nil))
      (pss_cons (ps_for PassesOwn.never rfl (pi_range1 rfl T.range (pa_cons (pe_callB call_len_seq (by rfl) T.len PySem.boot_len (pa_cons (pv 0) pa_nil)) pa_nil)) (pg_name (i := 3) nd rfl (Or.inl rfl)) (pss_one (ps_if (PW.pt (pw_or (pt_cmpR op_eq (pv 3) (pv 1) (nomark _)) (pw_or1 (pt_cmpR op_eq (pe_ix ix_list (pe_ix ix_list (pv 0) (pv 3) (fun _ _ => rfl)) (pv 1) (fun _ _ => rfl)) pe_int (nomark _))))) (pss_one (ps_expr (pe_bm PySem.F.plainAttrs_list PySem.F.slot_list_append PySem.F.type_list_append mt_append (pv 2) (pa_cons (pe_ix ix_list (pv 0) (pv 3) (fun _ _ => rfl)) pa_nil)))) (pss_one (ps_expr (pe_bm PySem.F.plainAttrs_list PySem.F.slot_list_append PySem.F.type_list_append mt_append (pv 2) (pa_cons (C8.pe_c c_lessened hr (by decide) rfl (pa_cons (C8.pe_c c_without hr (by decide) rfl (pa_cons (pe_ix ix_list (pv 0) (pv 3) (fun _ _ => rfl)) (pa_cons (pe_ix ix_list (pv 0) (pv 1) (fun _ _ => rfl)) (pa_cons (pv 1) pa_nil)))) pa_nil)) pa_nil)))))))
      (pss_one (ps_ret (pv 2))))), ?_⟩
  obtain ⟨_, v, rows, n, k, rfl, ⟨a, vs, rfl, ha, hv⟩, hn, ok, hQ⟩ := h
  have hlen : rows.length = n := ok.shape.1
  refine q_asgL (el_lst ea_nil (by decide)) fun F H1 hF e1 h1 => ?_
  have hvn : vs.length = n := hv.1.trans hlen
  refine q_forR1 (n := (n : Int)) (by rw [← hvn]; exact ea_cons (ev_len (ev_var rfl) (sq_of (e1 _ _ ha))) ea_nil) (by omega)
    (fun i σ H' => ∃ z : Option V, σ = [some (.ref a), some (.int k), some (.ref F), z] ∧ Ex H H' ∧ ∃ ws, H' F = some (.lst ws) ∧ ws.length = i ∧ ∀ j w, ws[j]? = some w → LI (hide F H') w (CN.clearRow rows k j))
    (fun H2 e2 => ⟨none, rfl, e1.trans e2, [], e2 _ _ h1, rfl, fun j w hj => by simp at hj⟩) ?_ ?_
  · rintro i σ H' hi ⟨z, rfl, e, ws, hw1, hw2, hw3⟩
    have hi' : i < n := by omega
    have hk := ok.lt
    obtain ⟨b, hb1, hb2, hb3⟩ := LR.row ha hv (i := i) (by omega)
    obtain ⟨c, hc1, hc2, hc3⟩ := LR.row ha hv (i := k) (by omega)
    have rl := ok.shape.row hi'
    have kl := ok.shape.row hk
    have eT := et_is (et_or (et_test (ev_op (H := H') (σ := [some (.ref a), some (.int k), some (.ref F), some (.int i)]) (ev_var (i := 3) rfl) (ev_var (i := 1) rfl) (rv_eq rfl)))
      (fun _ => et_test (ev_op (ev_cell (K := K) (ev_row (K := K) (ev_var (i := 0) rfl) (ev_var (i := 3) rfl) (e _ _ ha) hb1) (ev_var (i := 1) rfl) (e _ _ hb3) (by omega)) (ev_c (v := .int 0)) (rv_eq rfl)))) or_int
    refine s_if eT (fun hb H2 e2 => ?_) (fun hb H2 e2 => ?_)
    · have cond : i = k ∨ CN.ent rows i k = 0 := by
        have := of_decide_eq_true hb
        rcases this with z | z
        · exact .inl (by omega)
        · exact .inr z
      refine s_app (e2 _ _ hw1) (ev_var rfl) (ev_row (ev_var rfl) (ev_var rfl) ((e.trans e2) _ _ ha) hb1) (by omega) fun H3 e3 => ⟨_, rfl, Ex.mut ((e.trans e2).trans e3) hF, ws ++ [.ref b], upd_same, by rw [List.length_append, hw2]; rfl, fun j w hj => ?_⟩
      rw [hide_upd]
      rcases getElem_snoc hj with z | ⟨z1, z2⟩
      · exact (hw3 j w z).mono (hide_mono (e2.trans e3))
      · rw [z1, z2, hw2]
        refine ⟨b, rfl, ?_⟩
        unfold CN.clearRow
        rw [if_pos cond]
        exact hide_old hF ((e.trans e2).trans e3) _ _ hb3
    · have ncond : ¬ (i = k ∨ CN.ent rows i k = 0) := fun z => by
        have := of_decide_eq_false hb
        rcases z with z | z
        · exact this (.inl (by omega))
        · exact this (.inr z)
      have hne : i ≠ k := fun z => ncond (.inl z)
      have h0 : CN.ent rows i k ≠ 0 := fun z => ncond (.inr z)
      have wl : (CN.wRow rows k i).length = n + 1 := CN.wRow_len ok.shape hi' hk
      have sm : ∀ {i : Nat}, i < n → ∀ y ∈ rows.getD i [], y.natAbs < 2 ^ 13500 := fun {i} hi y hy => by
        obtain ⟨j, hj, rfl⟩ := List.getElem_of_mem hy
        have := ok.small i j hi (by rw [ok.shape.row hi] at hj; omega)
        unfold CN.ent at this
        rw [List.getD_eq_getElem?_getD (l := rows.getD i []), List.getElem?_eq_getElem hj] at this
        exact this
      have wsm : ∀ y ∈ CN.wRow rows k i, y.natAbs < 2 ^ 13500 := fun y hy => by
        obtain ⟨j, hj, rfl⟩ := List.getElem_of_mem hy
        have := ok.wsmall i j hi' hne h0 (by rw [wl] at hj; omega)
        rw [List.getD_eq_getElem?_getD, List.getElem?_eq_getElem hj] at this
        exact this
      have eee := e.trans e2
      refine s_appP (R := fun H1 H4 v => ∃ H0, Ex H1 H0 ∧ ∃ p, v = .ref p ∧ H0 p = none ∧ H4 p = some (.lst ((CN.lessened (CN.wRow rows k i)).map V.int))) (e2 _ _ hw1) (ev_var rfl)
        (evp_call1 (R1 := fun H1 H2 v => ∃ p, v = .ref p ∧ H2 p = some (.lst ((CN.wRow rows k i).map V.int)))
          (EvP.imp (evp_callA (R := fun H1 H2 v => ∃ p, v = .ref p ∧ H2 p = some (.lst ((CN.wRow rows k i).map V.int))) (ea_cons (ev_row (K := K) (ev_var rfl) (ev_var rfl) (eee _ _ ha) hb1) (ea_cons (ev_row (K := K) (ev_var rfl) (ev_var rfl) (eee _ _ ha) hc1) (ea_cons (ev_var rfl) ea_nil)))
            fun H3 e3 Q3 k3 E3 => ⟨rfl, _, _, _, _, k, rfl, ⟨b, rfl, (eee.trans e3) _ _ hb3⟩, ⟨c, rfl, (eee.trans e3) _ _ hc3⟩, by rw [rl, kl], by omega, by omega, sm hi', sm hk, fun p H4 hp e4 hx => k3 _ H4 e4 ⟨p, rfl, hx⟩⟩) fun H1 H2 v _ _ ⟨H0, e0, r⟩ => r)
          fun v H3 H4 e3 e4 ⟨p, hv', hp⟩ H5 e5 Q5 k5 E5 => ⟨rfl, v, _, rfl, ⟨p, hv', e5 _ _ hp⟩, by rw [wl]; omega, ok.gpos i hi' hne h0, wsm, fun q H6 hq e6 hx => k5 _ H6 e6 ⟨q, rfl, hq, hx⟩⟩)
        (by omega) fun v H3 H4 e3 e4 ⟨H0, e0, p, hv', hp, hx⟩ => ⟨_, rfl, Ex.mut ((eee.trans e3).trans e4) hF, ws ++ [v], upd_same, by rw [List.length_append, hw2]; rfl, fun j w hj => ?_⟩
      rw [hide_upd]
      rcases getElem_snoc hj with z | ⟨z1, z2⟩
      · exact (hw3 j w z).mono (hide_mono ((e2.trans e3).trans e4))
      · rw [z1, z2, hw2, hv']
        refine ⟨p, rfl, ?_⟩
        have hF3 := (e3.trans e0) _ _ (e2 _ _ hw1)
        rw [hide_ne (fun z => by rw [z, hF3] at hp; cases hp)]
        unfold CN.clearRow
        rw [if_neg ncond]
        exact hx
  · rintro σ H' ⟨z, rfl, e, ws, hw1, hw2, hw3⟩
    refine s_ret (ev_var rfl) fun H2 e2 => ?_
    refine hQ F H2 hF (e.trans e2) ⟨F, ws, rfl, e2 _ _ hw1, ?_, fun i u xs hu hxs => ?_⟩
    · have e1 : ws.length = n := by omega
      unfold CN.cleared
      rw [List.length_map, List.length_range, hlen, e1]
    · have e1 : xs = CN.clearRow rows k i := by
        unfold CN.cleared at hxs
        rw [List.getElem?_map] at hxs
        cases c : (List.range rows.length)[i]? with
        | none =>
          rw [c] at hxs
          cases hxs
        | some m =>
          rw [c] at hxs
          have := (List.getElem?_eq_some_iff.mp c).2
          rw [List.getElem_range] at this
          rw [← this] at hxs
          exact (Option.some.inj hxs).symm
      rw [e1]
      exact ((hw3 i u hu).mono hide_ex).mono e2
/-- a list of fractions that is new -/
def NewF (K : PySem.W.Frag) (H : Hp) (rs : List Rat) (Q : VK) : Prop := ∀ p H', H p = none → Ex H H' → LF K H' (.ref p) rs → Q (.ref p) H'
def sp_solved (K : PySem.W.Frag) : Sp := fun vs H Q _ => vs.length = 1 ∧ ∃ (v : V) (rows : List (List Int)) (n : Nat), vs = [v] ∧ LR H v rows ∧ n ≤ 200 ∧ rows.length = n ∧ CN.SolveOk n rows ∧ NewF K H (CN.solvedR n rows) Q
theorem stepped_len {n : Nat} {rows : List (List Int)} (h : rows.length = n) : ∀ m, (CN.stepped rows m).length = n
  | 0 => h
  | m + 1 => by
    show (CN.cleared (CN.stepped rows m) m).length = n
    unfold CN.cleared
    rw [List.length_map, List.length_range, stepped_len h m]
theorem atI_lastN {xs : List Int} {n : Nat} (h : xs.length = n + 1) : atI (xs.map V.int) (-1) = some (.int (xs.getD n 0)) := by
  have e : xs = xs.take n ++ [xs.getD n 0] := by
    rw [← take_snoc' (getD_some (by omega)), ← h, List.take_length]
  conv => lhs; rw [e, List.map_append]
  exact atI_last _ _
theorem sm_nat {x : Int} (h : CN.Sm x) : x.natAbs < 2 ^ 13500 := h
theorem sc_solved : FnScope ["rows", "at"] ["rows"] (defScope (top 41)) := ⟨rfl, rfl, rfl, by decide +kernel, rfl, by decide +kernel, by decide +kernel⟩
theorem cal_solved {P : Program} {w : World} {K : PySem.W.Frag} {mg : Str → Option Value} {base : Heap} (g : Glo K mg "solved" (top 41)) (T : Txt K mg) (c_cleared : Cal P w K mg base 3 "cleared" (sp_cleared K)) (c_lowest : Cal P w K mg base 2 "lowest" (sp_lowest K)) : Cal P w K mg base 4 "solved" (sp_solved K) := by
  refine cal_by g sc_solved (fun _ _ _ _ _ _ us hl => match us, hl with | [_], _ => rfl) (fun vs H Q E h => h.1) fun f cdv A outer s H vs Q E hr h => ?_
  have nd := sc_solved.nd
  refine ⟨_, (pss_cons (ps_for PassesOwn.never rfl (pi_range1 rfl T.range (pa_cons (pe_callB call_len_seq (by rfl) T.len PySem.boot_len (pa_cons (pv 0) pa_nil)) pa_nil)) (pg_name (i := 1) nd rfl (Or.inl rfl)) (pss_one (ps_set (i := 0) nd rfl (Or.inr rfl) (C8.pe_c c_cleared hr (by decide) rfl (pa_cons (pv 0) (pa_cons (pv 1) pa_nil))))))
      (pss_one (ps_ret (pe_lc (own := [("at", 1)]) rfl nd (pi_range1 rfl T.range (pa_cons (pe_callB call_len_seq (by rfl) T.len PySem.boot_len (pa_cons (pv 0) pa_nil)) pa_nil)) (blkOk_by (own := [("at", 1)]) (N := ["rows", "at"]) (sc := defScope (top 41)) (by decide +kernel)) (fun _ _ _ _ _ => by exact (pg_name (i := 1) nd rfl (Or.inl rfl))) (fun _ _ _ _ _ => by exact pts_nil) (fun _ _ _ _ _ => by exact (C8.pe_c c_lowest hr (by decide) rfl (pa_cons (pe_ix (ix_listK K rfl) (pe_ix (ix_listK K rfl) (pv 0) (pv 1) (fun _ _ => rfl)) (pe_un un_neg pe_int) (fun _ _ => rfl)) (pa_cons (pe_ix (ix_listK K rfl) (pe_ix (ix_listK K rfl) (pv 0) (pv 1) (fun _ _ => rfl)) (pv 1) (fun _ _ => rfl)) pa_nil)))))))), ?_⟩
  obtain ⟨_, v, rows, n, rfl, ⟨a, vs, rfl, ha, hv⟩, hn, hlen, ok, hQ⟩ := h
  have hvn : vs.length = n := hv.1.trans hlen
  refine q_forR1 (n := (n : Int)) (by rw [← hvn]; exact ea_cons (ev_len (ev_var rfl) (sq_of ha)) ea_nil) (by omega)
    (fun i σ H' => ∃ (z : Option V) (u : V), σ = [some u, z] ∧ Ex H H' ∧ LR H' u (CN.stepped rows i))
    (fun H2 e2 => ⟨none, _, rfl, e2, a, vs, rfl, e2 _ _ ha, hv.1, fun i v x p q => (hv.2 i v x p q).mono e2⟩) ?_ ?_
  · rintro i σ H' hi ⟨z, u, rfl, e, hu⟩
    refine s_asgP (evp_callA (R := fun H1 H2 v => LR H2 v (CN.stepped rows (i + 1))) (ea_cons (ev_var rfl) (ea_cons (ev_var rfl) ea_nil)) fun H3 e3 Q3 k3 E3 => ⟨rfl, u, _, n, i, rfl, LR.mono e3 hu, hn, ok.step i (by omega), fun p H4 hp e4 hx => k3 _ H4 e4 hx⟩) fun v H3 e3 ⟨H0, e0, hx⟩ => ⟨_, _, rfl, e.trans e3, hx⟩
  · rintro σ H' ⟨z, u, rfl, e, hu⟩
    have en : ((n : Int)).toNat = n := by omega
    rw [en] at hu
    obtain ⟨b, ws, rfl, hb, hw⟩ := hu
    have hwn : ws.length = n := hw.1.trans (stepped_len hlen n)
    refine s_retP (evp_lcR1 (n := (n : Int)) (fun i H v => FrV K H v (mkRat (CN.ent (CN.stepped rows n) i n) (CN.ent (CN.stepped rows n) i i).toNat)) (fun i Ha Hb v e h => h.mono e)
      (by rw [← hwn]; exact ea_cons (ev_len (ev_var rfl) (sq_of hb)) ea_nil) (by omega) (fun _ => rfl) fun i H1 e1 hi => ?_) fun v H2 e2 ⟨p, us, hv', hp, hx, hul, hr⟩ => ?_
    · have hi' : i < n := by omega
      obtain ⟨c, hc1, hc2, hc3⟩ := LR.row hb hw (i := i) (by rw [stepped_len hlen]; exact hi')
      have rl := ok.shape.row hi'
      have last : atI (((CN.stepped rows n).getD i []).map V.int) (-1) = some (.int (CN.ent (CN.stepped rows n) i n)) := by
        exact atI_lastN rl
      refine EvP.imp (evp_callA (R := fun H1 H2 v => ∃ p, v = .ref p ∧ H1 p = none ∧ H2 p = some (.tup [.int (mkRat (CN.ent (CN.stepped rows n) i n) (CN.ent (CN.stepped rows n) i i).toNat).num, .int (mkRat (CN.ent (CN.stepped rows n) i n) (CN.ent (CN.stepped rows n) i i).toNat).den]))
        (ea_cons (ev_op (ev_row (K := K) (ev_var rfl) (ev_var rfl) (e1 _ _ hb) hc1) (ev_un ev_c ru_neg) (rv_ixL (sq_of (e1 _ _ hc3)) last)) (ea_cons (ev_cell (K := K) (ev_row (K := K) (ev_var rfl) (ev_var rfl) (e1 _ _ hb) hc1) (ev_var rfl) (e1 _ _ hc3) (by omega)) ea_nil))
        fun H3 e3 Q3 k3 E3 => ⟨rfl, _, _, rfl, ok.rhs i hi', ok.diag i hi', sm_nat (ok.small i n hi' (Nat.le_refl n)), sm_nat (ok.small i i hi' (by omega)), fun p H4 hp e4 hx => k3 _ H4 e4 ⟨p, rfl, hp, hx⟩⟩) ?_
      intro Ha Hb v _ _ ⟨H0, e0, p, hv', hp, hx⟩ Dl acc hD hA hE
      subst hv'
      exact FrV.hide ⟨p, rfl, st_of hx⟩ (hE _ _ hA)
    · subst hv'
      refine hQ p H2 (fresh_back e hp) (e.trans e2) ⟨p, us, rfl, hx, ?_, fun i u r hu hr' => ?_⟩
      · unfold CN.solvedR
        rw [List.length_map, List.length_range, hul]
        omega
      · have h1 := hr i u hu
        unfold CN.solvedR at hr'
        rw [List.getElem?_map] at hr'
        cases c : (List.range n)[i]? with
        | none =>
          rw [c] at hr'
          cases hr'
        | some m =>
          rw [c] at hr'
          have := (List.getElem?_eq_some_iff.mp c).2
          rw [List.getElem_range] at this
          rw [← this] at hr'
          have e1 := (Option.some.inj hr').symm
          rw [e1]
          exact h1
end CW
/-! What is remembered, and the chain. -/
namespace CW
open PySem PySem.Spec PyProof.Rows L2 Evl
open Km522 (n2i mind Desk Case END)

/-! ### lists of ints compared; slices -/
theorem dp_ints {K : PySem.W.Frag} {H : Hp} : ∀ xs : List Int, DpAll K H (xs.map V.int) (xs.map PyData.int)
  | [] => .nil
  | x :: r => .cons (.int x) (dp_ints r)
theorem eqv_ints : ∀ xs ys : List Int, PyData.eqvAll (xs.map PyData.int) (ys.map PyData.int) = decide (xs = ys)
  | [], [] => by simp [PyData.eqvAll]
  | [], y :: ys => by simp [PyData.eqvAll]
  | x :: xs, [] => by simp [PyData.eqvAll]
  | x :: xs, y :: ys => by
    show PyData.eqvAll (PyData.int x :: xs.map PyData.int) (PyData.int y :: ys.map PyData.int) = _
    rw [PyData.eqvAll, eqv_ints xs ys, PyData.eqv]
    by_cases h : x = y
    · subst h
      simp
    · simp [h]
theorem ints_lay : ∀ xs : List Int, PyData.canLayAll0 (xs.map PyData.int) = true
  | [] => by simp [PyData.canLayAll0]
  | x :: xs => by
    simp only [List.map_cons, PyData.canLayAll0, PyData.canLay0, Bool.true_and]
    exact ints_lay xs
theorem ints_depth : ∀ xs : List Int, PyData.depthAll (xs.map PyData.int) ≤ 1
  | [] => by simp [PyData.depthAll]
  | x :: xs => by
    have h := ints_depth xs
    simp only [List.map_cons, PyData.depthAll, PyData.depth]
    omega
theorem ints_shaped (xs : List Int) : SeqAt.shaped (.list (xs.map PyData.int)) = true := by
  have h1 := ints_depth xs
  have h2 : PyData.depth (.list (xs.map PyData.int)) ≤ 64 := by
    simp only [PyData.depth]
    omega
  show (PyData.canLay0 (.list (xs.map PyData.int)) && decide (PyData.depth (.list (xs.map PyData.int)) ≤ 64)) = true
  rw [Bool.and_eq_true]
  exact ⟨by simp only [PyData.canLay0]; exact ints_lay xs, decide_eq_true h2⟩
theorem rv_eqI {K : PySem.W.Frag} {H : Hp} {a b : Addr} {xs ys : List Int} (ha : H a = some (.lst (xs.map V.int))) (hb : H b = some (.lst (ys.map V.int))) : RV (rEqD K) (.ref a) (.ref b) H (.bl (decide (xs = ys))) := fun H1 e Q q => by
  refine ⟨.list (xs.map PyData.int), .list (ys.map PyData.int), .lst (sq_of (e _ _ ha)) (dp_ints xs), .lst (sq_of (e _ _ hb)) (dp_ints ys), ints_shaped xs, ints_shaped ys, ?_⟩
  have e2 : PyData.eqv (.list (xs.map PyData.int)) (.list (ys.map PyData.int)) = decide (xs = ys) := by
    rw [PyData.eqv]
    exact eqv_ints xs ys
  rw [e2]
  exact q H1 (Ex.refl H1)
theorem cut_last (xs : List V) : cutV xs (some (-1)) none = xs.drop (xs.length - 1) := by
  unfold cutV
  have e1 : HT.sIx xs.length 0 (some (-1)) = xs.length - 1 := by
    show (if (-1 : Int) < 0 then ((-1 : Int) + (xs.length : Int)).toNat else min (-1 : Int).toNat xs.length) = xs.length - 1
    rw [if_pos (by decide)]
    omega
  rw [e1, HT.sIx_none]
  exact List.take_of_length_le (by rw [List.length_drop]; omega)
theorem cut_head (xs : List V) (k : Nat) : cutV xs none (some (k : Int)) = xs.take k := by
  unfold cutV
  rw [HT.sIx_none, HT.sIx_nat, List.drop_zero, Nat.sub_zero]
  rcases Nat.le_total k xs.length with h | h
  · rw [Nat.min_eq_left h]
  · rw [Nat.min_eq_right h, List.take_of_length_le (Nat.le_refl _), List.take_of_length_le h]

/-! ### remembered, place_of, coming -/
theorem n2i_len (l : List Nat) : (n2i l).length = l.length := List.length_map ..
theorem mind_one (p : List Nat) : mind 1 p = p.drop (p.length - 1) := by
  unfold mind
  rw [if_neg (by decide), if_pos rfl]
  rcases List.eq_nil_or_concat p with h | ⟨r, a, h⟩
  · subst h
    rfl
  · subst h
    rw [List.concat_eq_append, List.getLast?_concat, List.length_append, List.length_singleton, Nat.add_sub_cancel, List.drop_left]
def sp_remembered (K : PySem.W.Frag) : Sp := fun vs H Q _ => vs.length = 2 ∧ ∃ (v : V) (m : Nat) (p : List Nat), vs = [.int m, v] ∧ m ≤ 2 ∧ LI H v (n2i p) ∧ NewI H (n2i (mind m p)) Q
theorem et_eqI {σ : L2.St} {H : Hp} {ta tb : TE} {i j : Int} (ha : Ev ta σ H (.int i)) (hb : Ev tb σ H (.int j)) : EvT (tTest (tOp rEq ta tb)) σ H (decide (i = j)) := by
  have e : decide (V.int i = V.int j) = decide (i = j) := decide_eq_decide.mpr ⟨fun h => V.int.inj h, fun h => by rw [h]⟩
  rw [← e]
  exact et_test (ev_op ha hb (rv_eq rfl))
theorem sc_remembered : FnScope ["memory", "row"] ["memory", "row"] (defScope (top 23)) := ⟨rfl, rfl, rfl, by decide +kernel, rfl, by decide +kernel, by decide +kernel⟩
theorem cal_remembered {P : Program} {w : World} {K : PySem.W.Frag} {mg : Str → Option Value} {base : Heap} (g : Glo K mg "remembered" (top 23)) (T : Txt K mg) : Cal P w K mg base 1 "remembered" (sp_remembered K) := by
  refine cal_by g sc_remembered (fun _ _ _ _ _ _ us hl => match us, hl with | [_, _], _ => rfl) (fun vs H Q E h => h.1) fun f cdv A outer s H vs Q E hr h => ?_
  have nd := sc_remembered.nd
  refine ⟨_, (pss_cons (ps_if (pt_cmpR op_eq (pv 0) pe_int (nomark _)) (pss_one (ps_ret (pe_lst pa_nil))) pss_nil)
      (pss_cons (ps_if (pt_cmpR op_eq (pv 0) pe_int (nomark _)) (pss_one (ps_ret (pe_slice sl_list (pv 1) (po_some (pe_un un_neg pe_int)) po_none))) pss_nil)
      (pss_one (ps_ret (pe_callTy call_list_of (by rfl) T.list (by decide +kernel) (pa_cons (pv 1) pa_nil)))))), ?_⟩
  obtain ⟨_, v, m, p, rfl, hm, ⟨a, rfl, ha⟩, hQ⟩ := h
  refine q_when (et_eqI (ev_var rfl) ev_c) (fun hb H1 e1 => ?_) (fun hb H1 e1 => ?_)
  · have m0 : m = 0 := by
      have := of_decide_eq_true hb
      omega
    subst m0
    exact s_retL (el_lst ea_nil (by decide)) fun q H2 hq e2 hx => hQ q H2 (fresh_back e1 hq) (e1.trans e2) hx
  · refine q_when (et_eqI (ev_var rfl) ev_c) (fun hc H2 e2 => ?_) (fun hc H2 e2 => ?_)
    · have m1 : m = 1 := by
        have := of_decide_eq_true hc
        omega
      subst m1
      refine s_retL (el_sl (ev_var rfl) (eo_some (ev_un ev_c ru_neg)) eo_none (sq_of ((e1.trans e2) _ _ ha))) fun q H3 hq e3 hx => hQ q H3 (fresh_back (e1.trans e2) hq) ((e1.trans e2).trans e3) ?_
      rw [hx]
      show some (HO.lst (cutV ((n2i p).map V.int) (some (-1)) none)) = _
      rw [cut_last, List.length_map, n2i_len, mind_one, ← List.map_drop]
      unfold n2i
      rw [← List.map_drop]
    · have m2 : m = 2 := by
        have h1 := of_decide_eq_false hb
        have h2 := of_decide_eq_false hc
        omega
      subst m2
      refine s_retL (el_cb (ea_cons (ev_var rfl) ea_nil) (xs := (n2i p).map V.int) fun H3 e3 Q3 k3 => ⟨a, _, rfl, .inl (sq_of (((e1.trans e2).trans e3) _ _ ha)), fun l hl => k3 l _ hl (Ex.new hl) upd_same⟩) fun q H3 hq e3 hx => hQ q H3 (fresh_back (e1.trans e2) hq) ((e1.trans e2).trans e3) ?_
      rw [CN.mind_two]
      exact hx
def placeOf (T : List (List Nat)) (s : List Nat) : Option Nat := if s ∈ T then some (T.findIdx fun t => t == s) else none
def plV : Option Nat → V
  | none => .non
  | some i => .int (i : Int)
def sp_place_of (K : PySem.W.Frag) : Sp := fun vs H Q _ => vs.length = 2 ∧ ∃ (v x : V) (T : List (List Nat)) (s : List Nat), vs = [v, x] ∧ LR H v (T.map n2i) ∧ LI H x (n2i s) ∧ T.length ≤ 1000 ∧ RetV (plV (placeOf T s)) H Q
theorem n2i_inj {a b : List Nat} (h : n2i a = n2i b) : a = b := by
  unfold n2i at h
  exact List.map_inj_right (fun x y e => Int.ofNat.inj e) |>.mp h
theorem findIdx_first {T : List (List Nat)} {s : List Nat} {i : Nat} (h : T[i]? = some s) (hl : ∀ j, j < i → T[j]? ≠ some s) : T.findIdx (fun t => t == s) = i := by
  obtain ⟨hi, he⟩ := List.getElem?_eq_some_iff.mp h
  have hm : s ∈ T := List.mem_of_getElem? h
  have g := CN.find_get hm
  rcases Nat.lt_trichotomy (T.findIdx fun t => t == s) i with c | c | c
  · exact absurd g (hl _ c)
  · exact c
  · have := List.not_of_lt_findIdx c
    rw [he, beq_self_eq_true] at this
    cases this
theorem sc_place_of : FnScope ["things", "one", "at"] ["things", "one"] (defScope (top 24)) := ⟨rfl, rfl, rfl, by decide +kernel, rfl, by decide +kernel, by decide +kernel⟩
theorem cal_place_of {P : Program} {w : World} {K : PySem.W.Frag} {mg : Str → Option Value} {base : Heap} (g : Glo K mg "place_of" (top 24)) (T : Txt K mg) : Cal P w K mg base 1 "place_of" (sp_place_of K) := by
  refine cal_by g sc_place_of (fun _ _ _ _ _ _ us hl => match us, hl with | [_, _], _ => rfl) (fun vs H Q E h => h.1) fun f cdv A outer s H vs Q E hr h => ?_
  have nd := sc_place_of.nd
  refine ⟨_, (pss_cons (ps_for PassesOwn.never rfl (pi_range1 rfl T.range (pa_cons (pe_callB call_len_seq (by rfl) T.len PySem.boot_len (pa_cons (pv 0) pa_nil)) pa_nil)) (pg_name (i := 2) nd rfl (Or.inl rfl)) (pss_one (ps_if (pt_cmpR (op_eqD hr.units) (pe_ix ix_list (pv 0) (pv 2) (fun _ _ => rfl)) (pv 1) (nomark _)) (pss_one (ps_ret (pv 2))) pss_nil)))
      (pss_one (ps_ret pe_non))), ?_⟩
  obtain ⟨_, v, x, T', s', rfl, ⟨a, ws, rfl, ha, hw⟩, ⟨b, rfl, hb⟩, hT, hQ⟩ := h
  have hwn : ws.length = T'.length := by rw [hw.1, List.length_map]
  refine q_forR1 (n := (T'.length : Int)) (by rw [← hwn]; exact ea_cons (ev_len (ev_var rfl) (sq_of ha)) ea_nil) (by omega)
    (fun i σ H' => ∃ z : Option V, σ = [some (.ref a), some (.ref b), z] ∧ Ex H H' ∧ ∀ j, j < i → T'[j]? ≠ some s') (fun H2 e2 => ⟨none, rfl, e2, fun j hj => absurd hj (Nat.not_lt_zero _)⟩) ?_ ?_
  · rintro i σ H' hi ⟨z, rfl, e, hno⟩
    have hi' : i < T'.length := by omega
    obtain ⟨c, hc1, hc2, hc3⟩ := LR.row ha hw (i := i) (by rw [List.length_map]; exact hi')
    have eg : (T'.map n2i).getD i [] = n2i (T'[i]'hi') := by
      rw [List.getD_eq_getElem?_getD, List.getElem?_map, List.getElem?_eq_getElem hi']
      rfl
    rw [eg] at hc3
    refine s_when (et_test (ev_op (ev_row (K := K) (ev_var rfl) (ev_var rfl) (e _ _ ha) hc1) (ev_var rfl) (rv_eqI (e _ _ hc3) (e _ _ hb)))) (fun hb H2 e2 => ?_) (fun hb H2 e2 => ?_)
    · have es := n2i_inj (of_decide_eq_true hb)
      refine s_ret (ev_var rfl) fun H3 e3 => ?_
      have q := hQ H3 ((e.trans e2).trans e3)
      have eT : T'[i]? = some s' := by rw [List.getElem?_eq_getElem hi', es]
      unfold placeOf at q
      rw [if_pos (List.mem_of_getElem? eT), findIdx_first eT hno] at q
      exact q
    · refine ⟨_, rfl, e.trans e2, fun j hj => ?_⟩
      by_cases cj : j = i
      · subst cj
        rw [List.getElem?_eq_getElem hi']
        exact fun z => of_decide_eq_false hb (by rw [Option.some.inj z])
      · exact hno j (by omega)
  · rintro σ H' ⟨z, rfl, e, hno⟩
    refine s_ret ev_c fun H3 e3 => ?_
    have q := hQ H3 (e.trans e3)
    unfold placeOf at q
    rw [if_neg (fun hm => by
      obtain ⟨j, hj, rfl⟩ := List.getElem_of_mem hm
      exact hno j (by omega) (List.getElem?_eq_getElem hj))] at q
    exact q
def sp_coming (K : PySem.W.Frag) : Sp := fun vs H Q _ => vs.length = 2 ∧ ∃ (v : V) (r : List Nat) (k : Nat), vs = [v, .int k] ∧ LI H v (n2i r) ∧ RetV (.int (r.getD k END : Nat)) H Q
theorem n2i_get {r : List Nat} {k : Nat} (h : k < r.length) : (n2i r).getD k 0 = (r.getD k END : Nat) := by
  unfold n2i
  rw [List.getD_eq_getElem?_getD, List.getElem?_map, List.getD_eq_getElem?_getD, List.getElem?_eq_getElem h]
  rfl
theorem sc_coming : FnScope ["row", "at"] ["row", "at"] (defScope (top 25)) := ⟨rfl, rfl, rfl, by decide +kernel, rfl, by decide +kernel, by decide +kernel⟩
theorem cal_coming {P : Program} {w : World} {K : PySem.W.Frag} {mg : Str → Option Value} {base : Heap} (g : Glo K mg "coming" (top 25)) (T : Txt K mg) : Cal P w K mg base 1 "coming" (sp_coming K) := by
  refine cal_by g sc_coming (fun _ _ _ _ _ _ us hl => match us, hl with | [_, _], _ => rfl) (fun vs H Q E h => h.1) fun f cdv A outer s H vs Q E hr h => ?_
  have nd := sc_coming.nd
  refine ⟨_, (pss_cons (ps_if (pt_cmpR op_lt (pv 1) (pe_callB call_len_seq (by rfl) T.len PySem.boot_len (pa_cons (pv 0) pa_nil)) (nomark _)) (pss_one (ps_ret (pe_ix ix_list (pv 0) (pv 1) (fun _ _ => rfl)))) pss_nil)
      (pss_one (ps_ret (C8.pe_gc rfl T.END)))), ?_⟩
  obtain ⟨_, v, r, k, rfl, ⟨a, rfl, ha⟩, hQ⟩ := h
  refine q_when (et_test (ev_op (ev_var rfl) (ev_len (ev_var rfl) (sq_of ha)) rv_I0)) (fun hb H1 e1 => ?_) (fun hb H1 e1 => ?_)
  · have hk : k < r.length := by
      have := of_decide_eq_true hb
      rw [List.length_map, n2i_len] at this
      omega
    refine s_ret (ev_cell (K := K) (ev_var rfl) (ev_var rfl) (e1 _ _ ha) (by rw [n2i_len]; exact hk)) fun H2 e2 => ?_
    have q := hQ H2 (e1.trans e2)
    rw [← n2i_get hk] at q
    exact q
  · have hk : ¬ k < r.length := by
      have := of_decide_eq_false hb
      rw [List.length_map, n2i_len] at this
      omega
    refine s_ret ev_c fun H2 e2 => ?_
    have q := hQ H2 (e1.trans e2)
    rw [List.getD_eq_getElem?_getD, List.getElem?_eq_none (by omega)] at q
    exact q
end CW
/-! The chain. -/
namespace CW
open PySem PySem.Spec PyProof.Rows L2 Evl
open Km522 (n2i mind Desk Case END states)
open CN (Stp thg tab trow stepsOf)

def CsV (H : Hp) (v : V) (c : Case) : Prop := ∃ t b, v = .ref t ∧ H t = some (.tup [.ref b, .int (c.2 : Nat)]) ∧ H b = some (.lst ((n2i c.1).map V.int))
theorem CsV.mono {H H' : Hp} {v : V} {c : Case} (e : Ex H H') (h : CsV H v c) : CsV H' v c := let ⟨t, b, h1, h2, h3⟩ := h; ⟨t, b, h1, e _ _ h2, e _ _ h3⟩
def ChainV (H : Hp) (v : V) (d : Desk) : Prop := ∃ t p q, v = .ref t ∧ H t = some (.tup [.int (d.memory : Nat), p, q]) ∧ LR H p ((states d).map n2i) ∧ LR H q (tab (Km522.steps d))
theorem ChainV.mono {H H' : Hp} {v : V} {d : Desk} (e : Ex H H') (h : ChainV H v d) : ChainV H' v d := let ⟨t, p, q, h1, h2, h3, h4⟩ := h; ⟨t, p, q, h1, e _ _ h2, LR.mono e h3, LR.mono e h4⟩

/-- the two lists while they are made -/
structure Tb (H0 H : Hp) (p q : Addr) (ta wa : List Addr) (T : List (List Nat)) (B : List (List Int)) : Prop where
  ex : Ex H0 H
  p0 : H0 p = none
  q0 : H0 q = none
  hp : H p = some (.lst (ta.map V.ref))
  hq : H q = some (.lst (wa.map V.ref))
  tl : ta.length = T.length
  wl : wa.length = B.length
  ht : ∀ (i : Nat) (a : Addr) (s : List Nat), ta[i]? = some a → T[i]? = some s → H a = some (.lst ((n2i s).map V.int))
  hw : ∀ (i : Nat) (a : Addr) (r : List Int), wa[i]? = some a → B[i]? = some r → H a = some (.lst (r.map V.int))
  pq : p ≠ q
  pt : p ∉ ta
  pw : p ∉ wa
  qt : q ∉ ta
  qw : q ∉ wa
  tw : ∀ a ∈ ta, a ∉ wa
  wn : wa.Nodup
  new : ∀ a, a ∈ ta ∨ a ∈ wa → H0 a = none
section
variable {H0 H H' : Hp} {p q : Addr} {ta wa : List Addr} {T : List (List Nat)} {B : List (List Int)}
theorem Tb.mono (h : Tb H0 H p q ta wa T B) (e : Ex H H') : Tb H0 H' p q ta wa T B :=
  { h with ex := h.ex.trans e, hp := e _ _ h.hp, hq := e _ _ h.hq, ht := fun i a s x y => e _ _ (h.ht i a s x y), hw := fun i a r x y => e _ _ (h.hw i a r x y) }
theorem Tb.lrT (h : Tb H0 H p q ta wa T B) : LR H (.ref p) (T.map n2i) := ⟨p, _, rfl, h.hp, by rw [List.length_map, List.length_map, h.tl], fun i v xs x y => by
  rw [List.getElem?_map] at x y
  cases e1 : ta[i]? with
  | none => rw [e1] at x; cases x
  | some a =>
    cases e2 : T[i]? with
    | none => rw [e2] at y; cases y
    | some s =>
      rw [e1] at x
      rw [e2] at y
      have ex := Option.some.inj x
      have ey := Option.some.inj y
      subst ex ey
      exact ⟨a, rfl, h.ht i a s e1 e2⟩⟩
theorem Tb.lrW (h : Tb H0 H p q ta wa T B) : LR H (.ref q) B := ⟨q, _, rfl, h.hq, by rw [List.length_map, h.wl], fun i v xs x y => by
  rw [List.getElem?_map] at x
  cases e1 : wa[i]? with
  | none => rw [e1] at x; cases x
  | some a =>
    rw [e1] at x
    have ex := Option.some.inj x
    subst ex
    exact ⟨a, rfl, h.hw i a xs e1 y⟩⟩
theorem Tb.has_t (h : Tb H0 H p q ta wa T B) {a : Addr} (ha : a ∈ ta) : ∃ o, H a = some o := by
  obtain ⟨i, hi, rfl⟩ := List.getElem_of_mem ha
  exact ⟨_, h.ht i _ (T[i]'(by rw [← h.tl]; exact hi)) (List.getElem?_eq_getElem hi) (List.getElem?_eq_getElem _)⟩
theorem Tb.has_w (h : Tb H0 H p q ta wa T B) {a : Addr} (ha : a ∈ wa) : ∃ o, H a = some o := by
  obtain ⟨i, hi, rfl⟩ := List.getElem_of_mem ha
  exact ⟨_, h.hw i _ (B[i]'(by rw [← h.wl]; exact hi)) (List.getElem?_eq_getElem hi) (List.getElem?_eq_getElem _)⟩
/-- what is new behind H is none of these -/
theorem Tb.fresh (h : Tb H0 H p q ta wa T B) {O : Addr} (hO : H O = none) : O ≠ p ∧ O ≠ q ∧ O ∉ ta ∧ O ∉ wa ∧ H0 O = none := by
  refine ⟨fun z => ?_, fun z => ?_, fun z => ?_, fun z => ?_, fresh_back h.ex hO⟩
  · rw [z, h.hp] at hO
    cases hO
  · rw [z, h.hq] at hO
    cases hO
  · obtain ⟨o, e⟩ := h.has_t z
    rw [e] at hO
    cases hO
  · obtain ⟨o, e⟩ := h.has_w z
    rw [e] at hO
    cases hO
/-- one thing more -/
theorem Tb.addT (h : Tb H0 H p q ta wa T B) {O : Addr} {s : List Nat} (hO : H O = some (.lst ((n2i s).map V.int))) (f : O ≠ p ∧ O ≠ q ∧ O ∉ ta ∧ O ∉ wa ∧ H0 O = none) : Tb H0 (upd H p (.lst (ta.map V.ref ++ [.ref O]))) p q (ta ++ [O]) wa (T ++ [s]) B where
  ex := Ex.mut h.ex h.p0
  p0 := h.p0
  q0 := h.q0
  hp := by rw [upd_same, List.map_append]; rfl
  hq := by rw [upd_ne (Ne.symm h.pq)]; exact h.hq
  tl := by rw [List.length_append, List.length_append, h.tl]; rfl
  wl := h.wl
  ht := fun i a s' x y => by
    rcases getElem_snoc x with z | ⟨z1, z2⟩
    · have np : a ≠ p := fun e => h.pt (by rw [← e]; exact List.mem_of_getElem? z)
      rw [upd_ne np]
      rw [List.getElem?_append_left (by rw [← h.tl]; exact (List.getElem?_eq_some_iff.mp z).1)] at y
      exact h.ht i a s' z y
    · rw [z1, h.tl, List.getElem?_append_right (Nat.le_refl _), Nat.sub_self] at y
      have ey := Option.some.inj y
      rw [z2, upd_ne f.1, ← ey]
      exact hO
  hw := fun i a r x y => by
    have np : a ≠ p := fun e => h.pw (by rw [← e]; exact List.mem_of_getElem? x)
    rw [upd_ne np]
    exact h.hw i a r x y
  pq := h.pq
  pt := fun z => by
    rcases List.mem_append.mp z with z | z
    · exact h.pt z
    · exact f.1 (List.mem_singleton.mp z).symm
  pw := h.pw
  qt := fun z => by
    rcases List.mem_append.mp z with z | z
    · exact h.qt z
    · exact f.2.1 (List.mem_singleton.mp z).symm
  qw := h.qw
  tw := fun a z => by
    rcases List.mem_append.mp z with z | z
    · exact h.tw a z
    · rw [List.mem_singleton.mp z]
      exact f.2.2.2.1
  wn := h.wn
  new := fun a z => by
    rcases z with z | z
    · rcases List.mem_append.mp z with z | z
      · exact h.new a (.inl z)
      · rw [List.mem_singleton.mp z]
        exact f.2.2.2.2
    · exact h.new a (.inr z)
/-- one row more -/
theorem Tb.addW (h : Tb H0 H p q ta wa T B) {O : Addr} {r : List Int} (hO : H O = some (.lst (r.map V.int))) (f : O ≠ p ∧ O ≠ q ∧ O ∉ ta ∧ O ∉ wa ∧ H0 O = none) : Tb H0 (upd H q (.lst (wa.map V.ref ++ [.ref O]))) p q ta (wa ++ [O]) T (B ++ [r]) where
  ex := Ex.mut h.ex h.q0
  p0 := h.p0
  q0 := h.q0
  hp := by rw [upd_ne h.pq]; exact h.hp
  hq := by rw [upd_same, List.map_append]; rfl
  tl := h.tl
  wl := by rw [List.length_append, List.length_append, h.wl]; rfl
  ht := fun i a s' x y => by
    have np : a ≠ q := fun e => h.qt (by rw [← e]; exact List.mem_of_getElem? x)
    rw [upd_ne np]
    exact h.ht i a s' x y
  hw := fun i a r' x y => by
    rcases getElem_snoc x with z | ⟨z1, z2⟩
    · have np : a ≠ q := fun e => h.qw (by rw [← e]; exact List.mem_of_getElem? z)
      rw [upd_ne np]
      rw [List.getElem?_append_left (by rw [← h.wl]; exact (List.getElem?_eq_some_iff.mp z).1)] at y
      exact h.hw i a r' z y
    · rw [z1, h.wl, List.getElem?_append_right (Nat.le_refl _), Nat.sub_self] at y
      have ey := Option.some.inj y
      rw [z2, upd_ne f.2.1, ← ey]
      exact hO
  pq := h.pq
  pt := h.pt
  pw := fun z => by
    rcases List.mem_append.mp z with z | z
    · exact h.pw z
    · exact f.1 (List.mem_singleton.mp z).symm
  qt := h.qt
  qw := fun z => by
    rcases List.mem_append.mp z with z | z
    · exact h.qw z
    · exact f.2.1 (List.mem_singleton.mp z).symm
  tw := fun a ha z => by
    rcases List.mem_append.mp z with z | z
    · exact h.tw a ha z
    · rw [List.mem_singleton.mp z] at ha
      exact f.2.2.1 ha
  wn := by
    rw [List.nodup_append]
    refine ⟨h.wn, List.nodup_cons.mpr ⟨List.not_mem_nil, List.nodup_nil⟩, fun a ha b hb e => ?_⟩
    rw [List.mem_singleton] at hb
    subst hb e
    exact f.2.2.2.1 ha
  new := fun a z => by
    rcases z with z | z
    · exact h.new a (.inl z)
    · rcases List.mem_append.mp z with z | z
      · exact h.new a (.inr z)
      · rw [List.mem_singleton.mp z]
        exact f.2.2.2.2
/-- a row changed -/
theorem Tb.setW (h : Tb H0 H p q ta wa T B) {i : Nat} {l : Addr} (r : List Int) (hl : wa[i]? = some l) : Tb H0 (upd H l (.lst (r.map V.int))) p q ta wa T (B.set i r) where
  ex := Ex.mut h.ex (h.new l (.inr (List.mem_of_getElem? hl)))
  p0 := h.p0
  q0 := h.q0
  hp := by rw [upd_ne fun e => h.pw (by rw [e]; exact List.mem_of_getElem? hl)]; exact h.hp
  hq := by rw [upd_ne fun e => h.qw (by rw [e]; exact List.mem_of_getElem? hl)]; exact h.hq
  tl := h.tl
  wl := by rw [List.length_set]; exact h.wl
  ht := fun j a s' x y => by
    rw [upd_ne fun e => h.tw a (List.mem_of_getElem? x) (by rw [e]; exact List.mem_of_getElem? hl)]
    exact h.ht j a s' x y
  hw := fun j a r' x y => by
    by_cases c : i = j
    · subst c
      rw [hl] at x
      have ex := Option.some.inj x
      subst ex
      rw [List.getElem?_set, if_pos rfl] at y
      split at y
      · rw [upd_same, ← Option.some.inj y]
      · cases y
    · rw [List.getElem?_set, if_neg c] at y
      rw [upd_ne fun e => c ?_]
      · exact h.hw j a r' x y
      · rw [e] at x
        exact nd_ix h.wn hl x
  pq := h.pq
  pt := h.pt
  pw := h.pw
  qt := h.qt
  qw := h.qw
  tw := h.tw
  wn := h.wn
  new := h.new
theorem Tb.row (h : Tb H0 H p q ta wa T B) {i : Nat} {r : List Int} (hr : B[i]? = some r) : ∃ l, wa[i]? = some l ∧ H l = some (.lst (r.map V.int)) ∧ atI (wa.map V.ref) (i : Int) = some (.ref l) := by
  have hi : i < wa.length := by rw [h.wl]; exact (List.getElem?_eq_some_iff.mp hr).1
  have e := List.getElem?_eq_getElem hi
  exact ⟨_, e, h.hw i _ r e hr, atI_nat (by rw [List.getElem?_map, e]; rfl)⟩
end

def sp_chain_of (K : PySem.W.Frag) : Sp := fun vs H Q _ => vs.length = 2 ∧ ∃ (v : V) (d : Desk), vs = [.int (d.memory : Nat), v] ∧ CN.DeskOk d ∧ LG CsV H v d.cases ∧ ∀ p H', H p = none → Ex H H' → ChainV H' (.ref p) d → Q (.ref p) H'
theorem stepsOf_get {m : Nat} {c : Case} {k : Nat} (hk : k ≤ c.1.length) : (stepsOf m c)[k]? = some (mind m (c.1.take k), c.1.getD k END, c.2) := by
  unfold stepsOf
  rw [List.getElem?_map, List.getElem?_range (by omega)]
  rfl
theorem stepsOf_len (m : Nat) (c : Case) : (stepsOf m c).length = c.1.length + 1 := by
  unfold stepsOf
  rw [List.length_map, List.length_range]
theorem take_more' {α : Type} {l : List α} {i : Nat} {x : α} (h : l[i]? = some x) : l.take (i + 1) = l.take i ++ [x] := by
  obtain ⟨h1, h2⟩ := List.getElem?_eq_some_iff.mp h
  rw [← h2]
  exact (List.take_append_getElem h1).symm
theorem thg_len_le (L : List Stp) : (thg L).length ≤ L.length := by
  have h := CN.dd_len (acc := []) (l := L.map fun x => x.1)
  rw [List.length_map] at h
  have e : ([] : List (List Nat)).length = 0 := rfl
  unfold thg
  omega
theorem flat_take_len {d : Desk} (o : CN.DeskOk d) (i : Nat) (r : List Stp) (hr : r.length ≤ 9) : (((d.cases.take i).flatMap (stepsOf d.memory)) ++ r).length ≤ 1000 := by
  rw [List.length_append]
  have h1 : ((d.cases.take i).flatMap (stepsOf d.memory)).length ≤ (d.cases.flatMap (stepsOf d.memory)).length := by
    conv => rhs; rw [← List.take_append_drop i d.cases, List.flatMap_append, List.length_append]
    omega
  have h2 := CN.steps_len o
  rw [CN.steps_flat] at h2
  omega
theorem eap_one {σ : L2.St} {H : Hp} {te : TE} {R : Hp → Hp → V → Prop} {U : Hp → Hp → List V → Prop} (h : EvP te σ H R) (k : ∀ v H1 H2, Ex H H1 → Ex H1 H2 → R H1 H2 v → U H1 H2 [v]) : EaP (tCons te tNil) σ H U :=
  fun H1 e Q q => h H1 e _ fun v H2 e2 r => q [v] H2 e2 (k v H1 H2 e e2 r)
theorem eap_v {σ : L2.St} {H : Hp} {ta : TE} {tr : TA} {x : V} {U : Hp → Hp → List V → Prop} (h : Ev ta σ H x) (hr : EaP tr σ H U) : EaP (tCons ta tr) σ H (fun H1 H2 vs => ∃ H0 r, Ex H1 H0 ∧ vs = x :: r ∧ U H0 H2 r) :=
  fun H1 e Q q => h H1 e _ fun H2 e2 => hr H2 (e.trans e2) _ fun r H3 e3 u => q _ H3 (e2.trans e3) ⟨H2, r, e2, rfl, u⟩
theorem mem_none {T : List (List Nat)} {s : List Nat} : decide (plV (placeOf T s) = V.non) = decide (s ∉ T) := by
  refine decide_eq_decide.mpr ?_
  unfold placeOf
  by_cases c : s ∈ T
  · rw [if_pos c]
    exact ⟨fun z => (nomatch z), fun z => absurd c z⟩
  · rw [if_neg c]
    exact ⟨fun _ => c, fun _ => rfl⟩
theorem rep_map (n : Nat) : (List.range n).map (fun _ => V.int 0) = (List.replicate n (0 : Int)).map V.int := by
  rw [List.map_replicate]
  refine List.ext_getElem? fun i => ?_
  rw [List.getElem?_map, List.getElem?_replicate]
  by_cases c : i < n
  · rw [List.getElem?_range c, if_pos c]
    rfl
  · rw [List.getElem?_eq_none (by rw [List.length_range]; omega), if_neg c]
    rfl
theorem sc_chain_of : FnScope ["memory", "cases", "things", "weights", "row", "came", "at", "one", "place", "what"] ["memory", "cases"] (defScope (top 26)) := ⟨rfl, rfl, rfl, by decide +kernel, rfl, by decide +kernel, by decide +kernel⟩
theorem cal_chain_of {P : Program} {w : World} {K : PySem.W.Frag} {mg : Str → Option Value} {base : Heap} (g : Glo K mg "chain_of" (top 26)) (T : Txt K mg) (c_coming : Cal P w K mg base 1 "coming" (sp_coming K)) (c_place_of : Cal P w K mg base 1 "place_of" (sp_place_of K)) (c_remembered : Cal P w K mg base 1 "remembered" (sp_remembered K)) : Cal P w K mg base 2 "chain_of" (sp_chain_of K) := by
  refine cal_by g sc_chain_of (fun _ _ _ _ _ _ us hl => match us, hl with | [_, _], _ => rfl) (fun vs H Q E h => h.1) fun f cdv A outer s H vs Q E hr h => ?_
  have nd := sc_chain_of.nd
  refine ⟨_, (pss_cons (ps_set (i := 2) nd rfl (Or.inl rfl) (pe_lst pa_nil))
      (pss_cons (ps_set (i := 3) nd rfl (Or.inl rfl) (pe_lst pa_nil))
      (pss_cons (ps_for PassesOwn.never rfl (pi_list (pv 1)) (pg_tup rfl (pgs_cons (pg_name (i := 4) nd rfl (Or.inl rfl)) (pgs_cons (pg_name (i := 5) nd rfl (Or.inl rfl)) pgs_nil))) (pss_one (ps_for PassesOwn.never rfl (pi_range1 rfl T.range (pa_cons (pe_op op_add (pe_callB call_len_seq (by rfl) T.len PySem.boot_len (pa_cons (pv 4) pa_nil)) pe_int) pa_nil)) (pg_name (i := 6) nd rfl (Or.inl rfl)) (pss_cons (ps_set (i := 7) nd rfl (Or.inl rfl) (C8.pe_c c_remembered hr (by decide) rfl (pa_cons (pv 0) (pa_cons (pe_slice sl_list (pv 4) po_none (po_some (pv 6))) pa_nil))))
      (pss_cons (ps_if (pt_cmpR op_isN (C8.pe_c c_place_of hr (by decide) rfl (pa_cons (pv 2) (pa_cons (pv 7) pa_nil))) pe_non (nomark _)) (pss_cons (ps_expr (pe_bm PySem.F.plainAttrs_list PySem.F.slot_list_append PySem.F.type_list_append mt_append (pv 2) (pa_cons (pv 7) pa_nil)))
      (pss_one (ps_expr (pe_bm PySem.F.plainAttrs_list PySem.F.slot_list_append PySem.F.type_list_append mt_append (pv 3) (pa_cons (pe_lc (own := [("what", 9)]) rfl nd (pi_range1 rfl T.range (pa_cons (pe_op op_add (C8.pe_gc rfl T.END) pe_int) pa_nil)) (blkOk_by (own := [("what", 9)]) (N := ["memory", "cases", "things", "weights", "row", "came", "at", "one", "place", "what"]) (sc := defScope (top 26)) (by decide +kernel)) (fun _ _ _ _ _ => by exact (pg_name (i := 9) nd rfl (Or.inl rfl))) (fun _ _ _ _ _ => by exact pts_nil) (fun _ _ _ _ _ => by exact pe_int)) pa_nil))))) pss_nil)
      (pss_cons (ps_set (i := 8) nd rfl (Or.inl rfl) (C8.pe_c c_place_of hr (by decide) rfl (pa_cons (pv 2) (pa_cons (pv 7) pa_nil))))
      (pss_cons (ps_set (i := 9) nd rfl (Or.inl rfl) (C8.pe_c c_coming hr (by decide) rfl (pa_cons (pv 4) (pa_cons (pv 6) pa_nil))))
      (pss_one (ps_asg (pe_op op_add (pe_ix ix_list (pe_ix ix_list (pv 3) (pv 8) (fun _ _ => rfl)) (pv 9) (fun _ _ => rfl)) (pv 5)) (pg_sub (pe_ix ix_list (pv 3) (pv 8) (fun _ _ => rfl)) (pv 9) set_list))))))))))
      (pss_one (ps_ret (pe_tup (pa_cons (pv 0) (pa_cons (pv 2) (pa_cons (pv 3) pa_nil))))))))), ?_⟩
  obtain ⟨_, v, d, rfl, o, ⟨a, cs, rfl, ha, hcl, hc⟩, hQ⟩ := h
  refine q_asgL (el_lst ea_nil (by decide)) fun p H1 hp e1 h1 => ?_
  refine q_asgL (el_lst ea_nil (by decide)) fun q H2 hq e2 h2 => ?_
  have pq : p ≠ q := fun z => by
    rw [← z, h1] at hq
    cases hq
  have tb0 : Tb H H2 p q [] [] (thg []) (tab []) := ⟨e1.trans e2, hp, fresh_back e1 hq, e2 _ _ h1, h2, rfl, rfl, fun i a s x => by simp at x, fun i a s x => by simp at x, pq, List.not_mem_nil, List.not_mem_nil, List.not_mem_nil, List.not_mem_nil, fun a z => absurd z List.not_mem_nil, List.nodup_nil, fun a z => absurd (z.elim id id) List.not_mem_nil⟩
  refine q_forL (ev_var rfl) (sq_of ((e1.trans e2) _ _ ha)) (fun i σ H' => ∃ (z4 z5 z6 z7 z8 z9 : Option V) (ta wa : List Addr), σ = [some (.int (d.memory : Nat)), some (.ref a), some (.ref p), some (.ref q), z4, z5, z6, z7, z8, z9] ∧
      Tb H H' p q ta wa (thg ((d.cases.take i).flatMap (stepsOf d.memory))) (tab ((d.cases.take i).flatMap (stepsOf d.memory))))
    (fun H3 e3 => ⟨none, none, none, none, none, none, [], [], rfl, tb0.mono e3⟩) (fun i σ H' _ ⟨_, _, _, _, _, _, _, _, _, tb⟩ => sq_of (tb.ex _ _ ha)) ?_ ?_
  · rintro i x σ H' hx ⟨z4, z5, z6, z7, z8, z9, ta, wa, rfl, tb⟩
    have hi : i < d.cases.length := by
      have := (List.getElem?_eq_some_iff.mp hx).1
      omega
    have hci : d.cases[i]? = some (d.cases[i]'hi) := List.getElem?_eq_getElem hi
    have hmem : d.cases[i]'hi ∈ d.cases := List.getElem_mem hi
    obtain ⟨t, b, rfl, ht, hb⟩ := hc i x _ hx hci
    generalize d.cases[i]'hi = c at hci hmem ht hb
    have cl := o.len c hmem
    refine ⟨t, [.ref b, .int (c.2 : Nat)], rfl, st_of (tb.ex _ _ ht), rfl, _, _, rfl, _, _, rfl, rfl, ?_⟩
    refine s_forR1 (n := (c.1.length : Int) + 1) (by
        have e : (c.1.length : Int) = ((((n2i c.1).map V.int).length : Nat) : Int) := by rw [List.length_map, n2i_len]
        rw [e]
        exact ea_cons (ev_op (ev_len (ev_var rfl) (sq_of (tb.ex _ _ hb))) ev_c rv_I0) ea_nil) (by omega)
      (fun k σ H' => ∃ (z6 z7 z8 z9 : Option V) (ta wa : List Addr), σ = [some (.int (d.memory : Nat)), some (.ref a), some (.ref p), some (.ref q), some (.ref b), some (.int (c.2 : Nat)), z6, z7, z8, z9] ∧
        Tb H H' p q ta wa (thg ((d.cases.take i).flatMap (stepsOf d.memory) ++ (stepsOf d.memory c).take k)) (tab ((d.cases.take i).flatMap (stepsOf d.memory) ++ (stepsOf d.memory c).take k)))
      (fun H3 e3 => ⟨_, _, _, _, ta, wa, rfl, by rw [List.take_zero, List.append_nil]; exact tb.mono e3⟩) ?_ ?_
    · rintro k σ H3 hk ⟨y6, y7, y8, y9, ta, wa, rfl, tb⟩
      have hk' : k ≤ c.1.length := by omega
      have hmm := o.mem
      have hL := flat_take_len o i ((stepsOf d.memory c).take k) (by rw [List.length_take, stepsOf_len]; omega)
      have hL' := flat_take_len o i ((stepsOf d.memory c).take (k + 1)) (by rw [List.length_take, stepsOf_len]; omega)
      rw [take_more' (stepsOf_get hk'), ← List.append_assoc] at hL' ⊢
      have hst := CN.step_act o (x := (mind d.memory (c.1.take k), c.1.getD k END, c.2)) (CN.mem_steps.mpr ⟨c, hmem, k, hk', rfl⟩)
      generalize hx : ((mind d.memory (c.1.take k), c.1.getD k END, c.2) : Stp) = x at hst hL' ⊢
      have hx1 : mind d.memory (c.1.take k) = x.1 := by rw [← hx]
      have hx2 : c.1.getD k END = x.2.1 := by rw [← hx]
      have hx3 : c.2 = x.2.2 := by rw [← hx]
      generalize (d.cases.take i).flatMap (stepsOf d.memory) ++ (stepsOf d.memory c).take k = L at tb hL hL' ⊢
      have hT := thg_len_le L
      have hT' := thg_len_le (L ++ [x])
      -- one = remembered(memory, row[:at])
      refine q_asgP (R := fun H1 H2 v => ∃ O, v = .ref O ∧ H1 O = none ∧ H2 O = some (.lst ((n2i x.1).map V.int))) (evp_call
        (eap_v (ev_var rfl) (eap_one (U := fun H1 H2 vs => ∃ O, vs = [.ref O] ∧ H2 O = some (.lst ((n2i (c.1.take k)).map V.int))) (evp_evL (el_sl (K := K) (ev_var rfl) eo_none (eo_some (ev_var rfl)) (sq_of (tb.ex _ _ hb))))
          fun v H4 H5 e4 e5 ⟨O, hv, _, hO⟩ => ⟨O, by rw [hv], by
            have e : cutV ((n2i c.1).map V.int) none (some (k : Int)) = (n2i (c.1.take k)).map V.int := by
              rw [cut_head, ← List.map_take]
              unfold n2i
              rw [← List.map_take]
            rw [← e]
            exact hO⟩))
        fun vs H4 H5 e4 e5 ⟨H6, r, e6, hvs, O, hr, hO⟩ H7 e7 Q7 k7 E7 => by
          subst hvs hr
          refine ⟨rfl, _, d.memory, c.1.take k, rfl, hmm, ⟨O, rfl, e7 _ _ hO⟩, fun p8 H8 hp8 e8 hx8 => k7 _ H8 e8 ⟨p8, rfl, fresh_back (e5.trans e7) hp8, ?_⟩⟩
          rw [hx1] at hx8
          exact hx8) fun v H4 e4 ⟨O, hv, hOn, hO⟩ => ?_
      subst hv
      have tb4 := tb.mono e4
      have hf := tb.fresh hOn
      -- the rest
      have rest : ∀ (H5 : Hp) (ta wa : List Addr), Tb H H5 p q ta wa (thg (L ++ [x])) ((thg (L ++ [x])).map (trow L)) → H5 O = some (.lst ((n2i x.1).map V.int)) → ∀ D : Ends, (∀ σ' H', (∃ (z6 z7 z8 z9 : Option V) (ta wa : List Addr), σ' = [some (.int (d.memory : Nat)), some (.ref a), some (.ref p), some (.ref q), some (.ref b), some (.int (c.2 : Nat)), z6, z7, z8, z9] ∧ Tb H H' p q ta wa (thg (L ++ [x])) (tab (L ++ [x]))) → D.nx σ' H') →
          tSeq (tAsg (tCall (sp_place_of K) [] E0 (tCons (tVar 2) (tCons (tVar 7) tNil))) (gName 8)) (tSeq (tAsg (tCall (sp_coming K) [] E0 (tCons (tVar 4) (tCons (tVar 6) tNil))) (gName 9))
            (tAsg (tOp (rI0 fun i j => .int (i + j)) (tOp (rIxL K) (tOp (rIxL K) (tVar 3) (tVar 8)) (tVar 9)) (tVar 5)) (gSub (tOp (rIxL K) (tVar 3) (tVar 8)) (tVar 9) rSetL))) D
            [some (.int (d.memory : Nat)), some (.ref a), some (.ref p), some (.ref q), some (.ref b), some (.int (c.2 : Nat)), some (.int (k : Int)), some (.ref O), y8, y9] H5 := by
        intro H5 ta wa tb5 hO5 D hD
        have mem := CN.mem_thg_snoc L x
        have fi := CN.find_get mem
        generalize hi0 : (thg (L ++ [x])).findIdx (fun t => t == x.1) = i0 at fi
        have pl : placeOf (thg (L ++ [x])) x.1 = some i0 := by
          unfold placeOf
          rw [if_pos mem, hi0]
        refine q_asg (v := .int (i0 : Int)) (ev_callV (ea_cons (ev_var rfl) (ea_cons (ev_var rfl) ea_nil)) fun H6 e6 Q6 k6 E6 => ⟨rfl, _, _, _, x.1, rfl, LR.mono e6 tb5.lrT, ⟨O, rfl, e6 _ _ hO5⟩, by omega, fun H7 e7 => by rw [pl]; exact k6 H7 e7⟩) fun H6 e6 => ?_
        refine q_asg (v := .int (x.2.1 : Nat)) (ev_callV (ea_cons (ev_var rfl) (ea_cons (ev_var rfl) ea_nil)) fun H7 e7 Q7 k7 E7 => ⟨rfl, _, c.1, k, rfl, ⟨b, rfl, ((tb5.ex.trans e6).trans e7) _ _ hb⟩, fun H8 e8 => by rw [hx2]; exact k7 H8 e8⟩) fun H7 e7 => ?_
        have tb7 := (tb5.mono e6).mono e7
        have br : ((thg (L ++ [x])).map (trow L))[i0]? = some (trow L x.1) := by
          rw [List.getElem?_map, fi]
          rfl
        obtain ⟨l, hl1, hl2, hl3⟩ := tb7.row br
        have rl : x.2.1 < (trow L x.1).length := by rw [CN.trow_len]; exact hst
        refine s_setL (l := l) (j := x.2.1) hl2 (ev_op (ev_cell (K := K) (ev_row (K := K) (ev_var rfl) (ev_var rfl) tb7.hq hl3) (ev_var rfl) hl2 rl) (ev_var rfl) rv_I0) (ev_row (K := K) (ev_var rfl) (ev_var rfl) tb7.hq hl3) (ev_var rfl) (by rw [List.length_map]; exact rl) fun H8 e8 => hD _ _ ⟨_, _, _, _, ta, wa, rfl, ?_⟩
        have tb9 := (tb7.mono e8).setW ((trow L x.1).set x.2.1 ((trow L x.1).getD x.2.1 0 + (x.2.2 : Int))) hl1
        rw [CN.tab_snoc hst fi, List.map_set, ← hx3] at tb9
        exact tb9
      -- if place_of(things, one) is None
      have eT : EvT (tTest (tOp (fun x y H Q => y = V.non ∧ Q (V.bl (decide (x = V.non))) H) (tCall (sp_place_of K) [] E0 (tCons (tVar 2) (tCons (tVar 7) tNil))) (tC V.non)))
          [some (.int (d.memory : Nat)), some (.ref a), some (.ref p), some (.ref q), some (.ref b), some (.int (c.2 : Nat)), some (.int (k : Int)), some (.ref O), y8, y9] H4 (decide (x.1 ∉ thg L)) := by
        rw [← mem_none]
        refine et_test (ev_op (ev_callV (z := plV (placeOf (thg L) x.1)) (ea_cons (ev_var rfl) (ea_cons (ev_var rfl) ea_nil)) fun H6 e6 Q6 k6 E6 => ⟨rfl, _, _, _, x.1, rfl, LR.mono e6 tb4.lrT, ⟨O, rfl, e6 _ _ hO⟩, by omega, fun H7 e7 => k6 H7 e7⟩) ev_c (rv_val fun H6 e6 Q6 q6 => ⟨rfl, q6⟩))
      have mid := CN.tab_mid L x
      refine q_when eT (fun hb5 H5 e5 => ?_) (fun hb5 H5 e5 => ?_)
      · have hn : x.1 ∉ thg L := of_decide_eq_true hb5
        rw [if_neg hn] at mid
        have eL : thg (L ++ [x]) = thg L ++ [x.1] := by rw [CN.thg_snoc, if_neg hn]
        have tb5 := tb4.mono e5
        refine q_app (l := p) tb5.hp (ev_var rfl) (ev_var rfl) (by rw [List.length_map, tb5.tl]; omega) fun H6 e6 => ?_
        have hO6 := (e5.trans e6) _ _ hO
        have tb6 := (tb5.mono e6).addT hO6 hf
        rw [← eL] at tb6
        refine s_appL (l := q) (ys := (List.replicate 11 (0 : Int)).map V.int) tb6.hq (ev_var rfl) (by
            have e := el_lcR1 (te := tC (.int 0)) (t := tYes) (σ := [some (.int (d.memory : Nat)), some (.ref a), some (.ref p), some (.ref q), some (.ref b), some (.int (c.2 : Nat)), some (.int (k : Int)), some (.ref O), y8, y9]) (H := upd H6 p (.lst (ta.map V.ref ++ [.ref O]))) (j := 9) (vs := [9]) (ta := tCons (tOp (rI0 fun i j => .int (i + j)) (tC (.int 10)) (tC (.int 1))) tNil) (n := 11) (fun _ => true) (fun _ => .int 0) (ea_cons (ev_op ev_c ev_c rv_I0) ea_nil) (by decide) (fun _ => rfl) (fun i H1 _ _ => et_yes) (fun i H1 _ _ _ => ev_c)
            rw [given_all, rep_map] at e
            exact e) (by rw [List.length_map, tb6.wl]; unfold tab; rw [List.length_map]; omega) fun Z H7 hZ e7 hZ7 => ?_
        have fZ := tb6.fresh hZ
        have tb7 := (tb6.mono e7).addW hZ7 fZ
        rw [mid] at tb7
        refine rest _ _ _ tb7 ?_ _ fun σ' H' h => h
        rw [upd_ne hf.2.1]
        exact e7 _ _ (by rw [upd_ne hf.1]; exact hO6)
      · have hn : x.1 ∈ thg L := by
          by_cases z : x.1 ∈ thg L
          · exact z
          · exact absurd z (of_decide_eq_false hb5)
        rw [if_pos hn] at mid
        have eL : thg (L ++ [x]) = thg L := by rw [CN.thg_snoc, if_pos hn]
        have tb5 := tb4.mono e5
        rw [mid, ← eL] at tb5
        exact rest _ _ _ tb5 (e5 _ _ hO) _ fun σ' H' h => h
    · rintro σ H3 ⟨y6, y7, y8, y9, ta, wa, rfl, tb⟩
      refine ⟨_, _, _, _, _, _, ta, wa, rfl, ?_⟩
      have e : ((c.1.length : Int) + 1).toNat = (stepsOf d.memory c).length := by
        rw [stepsOf_len]
        omega
      rw [e, List.take_length] at tb
      rw [take_more' hci, List.flatMap_append, List.flatMap_singleton]
      exact tb
  · rintro σ H' ⟨z4, z5, z6, z7, z8, z9, ta, wa, rfl, tb⟩
    rw [hcl, List.take_length, ← CN.steps_flat, CN.thg_steps] at tb
    refine s_retU (eu_tup (ea_cons (ev_var rfl) (ea_cons (ev_var rfl) (ea_cons (ev_var rfl) ea_nil))) (by show 3 ≤ 100000; decide)) fun t H3 ht e3 hx => ?_
    exact hQ t H3 (fresh_back tb.ex ht) (tb.ex.trans e3) ⟨t, _, _, rfl, hx, LR.mono e3 tb.lrT, LR.mono e3 tb.lrW⟩
end CW
/-! Places of the chain; chances. -/
namespace CW
open PySem PySem.Spec PyProof.Rows L2 Evl
open Km522 (n2i mind Desk Case END states onTo from_ fromTo)
open CN (Stp thg tab trow stepsOf nst wt tot nxt)

theorem q_unp3 {K : PySem.W.Frag} {σ : L2.St} {H : Hp} {te : TE} {D : Ends} {tz : TS} {t : Addr} {a b c : V} {i j k : Nat} (h : Ev te σ H (.ref t)) (ht : SqT K H t [a, b, c]) (kk : ∀ H1, Ex H H1 → tz D (((σ.set i (some a)).set j (some b)).set k (some c)) H1) :
    tSeq (tAsg te (gTup K 3 (gCons (gName i) (gCons (gName j) (gCons (gName k) gNil))))) tz D σ H := h H (Ex.refl H) _ fun H1 e => ⟨t, _, rfl, ex_t e ht, rfl, a, _, rfl, b, _, rfl, c, _, rfl, rfl, kk H1 e⟩
theorem q_unp2 {K : PySem.W.Frag} {σ : L2.St} {H : Hp} {te : TE} {D : Ends} {tz : TS} {t : Addr} {a b : V} {i j : Nat} (h : Ev te σ H (.ref t)) (ht : SqT K H t [a, b]) (kk : ∀ H1, Ex H H1 → tz D ((σ.set i (some a)).set j (some b)) H1) :
    tSeq (tAsg te (gTup K 2 (gCons (gName i) (gCons (gName j) gNil)))) tz D σ H := h H (Ex.refl H) _ fun H1 e => ⟨t, _, rfl, ex_t e ht, rfl, a, _, rfl, b, _, rfl, rfl, kk H1 e⟩

/-! ### the chain, opened -/
/-- a row of the second list -/
abbrev wrow (d : Desk) (i : Nat) : List Int := trow (Km522.steps d) (CN.st d i)
theorem wrow_get {d : Desk} {i a : Nat} (ha : a < 11) : (wrow d i).getD a 0 = (wt d i a : Nat) := by
  unfold wrow
  rw [CN.trow_get ha, CN.wsum_steps]
  rfl
theorem wrow_len (d : Desk) (i : Nat) : (wrow d i).length = 11 := CN.trow_len _ _
theorem sum_cast : ∀ l : List Nat, (l.map fun (x : Nat) => (x : Int)).sum = ((l.sum : Nat) : Int)
  | [] => rfl
  | x :: l => by
    rw [List.map_cons, List.sum_cons, List.sum_cons, sum_cast l]
    exact (Int.natCast_add ..).symm
theorem wrow_sum {d : Desk} (o : CN.DeskOk d) (i : Nat) : (wrow d i).sum = (tot d i : Nat) := by
  have e : wrow d i = ((List.range 11).map fun a => wt d i a).map fun (x : Nat) => (x : Int) := by
    unfold wrow trow
    rw [List.map_map]
    refine List.map_congr_left fun a _ => ?_
    rw [CN.wsum_steps]
    rfl
  rw [e, sum_cast, CN.SN_range]
  congr 1
  exact (CN.from_split o (CN.st d i)).symm
structure ChO (H : Hp) (v : V) (d : Desk) (t p q : Addr) (us ws : List V) : Prop where
  hv : v = .ref t
  ht : H t = some (.tup [.int (d.memory : Nat), .ref p, .ref q])
  hp : H p = some (.lst us)
  hq : H q = some (.lst ws)
  ul : us.length = nst d
  wl : ws.length = nst d
  hu : ∀ i, i < nst d → ∃ a, us[i]? = some (.ref a) ∧ atI us (i : Int) = some (.ref a) ∧ H a = some (.lst ((n2i (CN.st d i)).map V.int))
  hw : ∀ i, i < nst d → ∃ a, ws[i]? = some (.ref a) ∧ atI ws (i : Int) = some (.ref a) ∧ H a = some (.lst ((wrow d i).map V.int))
theorem ChainV.opened {H : Hp} {v : V} {d : Desk} (h : ChainV H v d) : ∃ t p q us ws, ChO H v d t p q us ws := by
  obtain ⟨t, _, _, hv, ht, ⟨p, us, rfl, hp, hu1, hu2⟩, ⟨q, ws, rfl, hq, hw1, hw2⟩⟩ := h
  have ul : us.length = nst d := by rw [hu1, List.length_map]
  have wl : ws.length = nst d := by
    rw [hw1]
    unfold tab
    rw [List.length_map]
    rfl
  refine ⟨t, p, q, us, ws, hv, ht, hp, hq, ul, wl, fun i hi => ?_, fun i hi => ?_⟩
  · obtain ⟨a, h1, h2, h3⟩ := LR.row hp ⟨hu1, hu2⟩ (i := i) (by rw [List.length_map]; exact hi)
    refine ⟨a, h2, h1, ?_⟩
    have e : ((states d).map n2i).getD i [] = n2i (CN.st d i) := CN.getD_map (d := ([] : List Nat)) rfl
    rw [e] at h3
    exact h3
  · obtain ⟨a, h1, h2, h3⟩ := LR.row hq ⟨hw1, hw2⟩ (i := i) (by unfold tab; rw [List.length_map]; exact hi)
    refine ⟨a, h2, h1, ?_⟩
    have e : (tab (Km522.steps d)).getD i [] = wrow d i := by
      unfold tab
      rw [CN.thg_steps, List.getD_eq_getElem?_getD, List.getElem?_map, List.getElem?_eq_getElem hi]
      unfold wrow CN.st
      rw [List.getD_eq_getElem?_getD, List.getElem?_eq_getElem hi]
      rfl
    rw [e] at h3
    exact h3
theorem ChO.mono {H H' : Hp} {v : V} {d : Desk} {t p q : Addr} {us ws : List V} (h : ChO H v d t p q us ws) (e : Ex H H') : ChO H' v d t p q us ws :=
  ⟨h.hv, e _ _ h.ht, e _ _ h.hp, e _ _ h.hq, h.ul, h.wl, fun i hi => let ⟨a, h1, h2, h3⟩ := h.hu i hi; ⟨a, h1, h2, e _ _ h3⟩, fun i hi => let ⟨a, h1, h2, h3⟩ := h.hw i hi; ⟨a, h1, h2, e _ _ h3⟩⟩
theorem ChO.lrT {H : Hp} {v : V} {d : Desk} {t p q : Addr} {us ws : List V} (h : ChO H v d t p q us ws) : LR H (.ref p) ((states d).map n2i) := ⟨p, us, rfl, h.hp, by rw [List.length_map, h.ul], fun i u xs hu hx => by
  have hi : i < nst d := by
    have := (List.getElem?_eq_some_iff.mp hu).1
    have := h.ul
    omega
  obtain ⟨a, h1, _, h3⟩ := h.hu i hi
  rw [hu] at h1
  have e1 := Option.some.inj h1
  have e2 : xs = n2i (CN.st d i) := by
    rw [List.getElem?_map, List.getElem?_eq_getElem hi] at hx
    have := Option.some.inj hx
    rw [← this]
    unfold CN.st
    rw [List.getD_eq_getElem?_getD, List.getElem?_eq_getElem hi]
    rfl
  rw [e1, e2]
  exact ⟨a, rfl, h3⟩⟩

/-! ### place_in, place_behind -/
theorem evp_placeOf {K : PySem.W.Frag} {σ : L2.St} {H : Hp} {d : Desk} (o : CN.DeskOk d) {p : Addr} {ta : TE} {tr : TE} {E : XK} {s : List Nat} (ha : Ev ta σ H (.ref p)) (hl : LR H (.ref p) ((states d).map n2i))
    (hr : EvP tr σ H (fun _ H2 v => ∃ O, v = .ref O ∧ H2 O = some (.lst ((n2i s).map V.int)))) : Ev (tCall (sp_place_of K) [] E (tCons ta (tCons tr tNil))) σ H (plV (placeOf (states d) s)) := fun H1 e Q k => by
  refine evp_call (R := fun _ _ v => v = plV (placeOf (states d) s)) (eap_v ha (eap_one (U := fun _ H2 vs => ∃ O, vs = [.ref O] ∧ H2 O = some (.lst ((n2i s).map V.int))) hr fun v H4 H5 e4 e5 ⟨O, hv, hO⟩ => ⟨O, by rw [hv], hO⟩))
    (fun vs H4 H5 e4 e5 ⟨H6, r, e6, hvs, O, hr', hO⟩ H7 e7 Q7 k7 E7 => ?_) H1 e Q fun v H2 e2 hv => by
      subst hv
      exact k H2 e2
  subst hvs hr'
  have := CN.states_len o
  exact ⟨rfl, _, _, _, s, rfl, LR.mono ((e4.trans e5).trans e7) hl, ⟨O, rfl, e7 _ _ hO⟩, by omega, fun H8 e8 => k7 _ H8 e8 rfl⟩
theorem evp_remem {K : PySem.W.Frag} {σ : L2.St} {H : Hp} {m : Nat} (hm : m ≤ 2) {ta tb : TE} {E : XK} {s : List Nat} (ha : Ev ta σ H (.int (m : Int))) (hb : EvP tb σ H (fun _ H2 v => ∃ O, v = .ref O ∧ H2 O = some (.lst ((n2i s).map V.int)))) :
    EvP (tCall (sp_remembered K) [] E (tCons ta (tCons tb tNil))) σ H (fun _ H2 v => ∃ O, v = .ref O ∧ H2 O = some (.lst ((n2i (mind m s)).map V.int))) :=
  evp_call (eap_v ha (eap_one (U := fun _ H2 vs => ∃ O, vs = [.ref O] ∧ H2 O = some (.lst ((n2i s).map V.int))) hb fun v H4 H5 e4 e5 ⟨O, hv, hO⟩ => ⟨O, by rw [hv], hO⟩))
    fun vs H4 H5 e4 e5 ⟨H6, r, e6, hvs, O, hr', hO⟩ H7 e7 Q7 k7 E7 => by
      subst hvs hr'
      exact ⟨rfl, _, m, s, rfl, hm, ⟨O, rfl, e7 _ _ hO⟩, fun p8 H8 hp8 e8 hx8 => k7 _ H8 e8 ⟨p8, rfl, hx8⟩⟩
def sp_place_in (K : PySem.W.Frag) : Sp := fun vs H Q _ => vs.length = 2 ∧ ∃ (v x : V) (d : Desk) (s : List Nat), vs = [v, x] ∧ CN.DeskOk d ∧ ChainV H v d ∧ LI H x (n2i s) ∧ RetV (plV (placeOf (states d) (mind d.memory s))) H Q
theorem sc_place_in : FnScope ["chain", "row", "memory", "things", "weights"] ["chain", "row"] (defScope (top 27)) := ⟨rfl, rfl, rfl, by decide +kernel, rfl, by decide +kernel, by decide +kernel⟩
theorem cal_place_in {P : Program} {w : World} {K : PySem.W.Frag} {mg : Str → Option Value} {base : Heap} (g : Glo K mg "place_in" (top 27)) (T : Txt K mg) (c_place_of : Cal P w K mg base 1 "place_of" (sp_place_of K)) (c_remembered : Cal P w K mg base 1 "remembered" (sp_remembered K)) : Cal P w K mg base 2 "place_in" (sp_place_in K) := by
  refine cal_by g sc_place_in (fun _ _ _ _ _ _ us hl => match us, hl with | [_, _], _ => rfl) (fun vs H Q E h => h.1) fun f cdv A outer s H vs Q E hr h => ?_
  have nd := sc_place_in.nd
  refine ⟨_, (pss_cons (ps_asg (pv 0) (pg_tup rfl (pgs_cons (pg_name (i := 2) nd rfl (Or.inl rfl)) (pgs_cons (pg_name (i := 3) nd rfl (Or.inl rfl)) (pgs_cons (pg_name (i := 4) nd rfl (Or.inl rfl)) pgs_nil)))))
      (pss_one (ps_ret (C8.pe_c c_place_of hr (by decide) rfl (pa_cons (pv 3) (pa_cons (C8.pe_c c_remembered hr (by decide) rfl (pa_cons (pv 2) (pa_cons (pv 1) pa_nil))) pa_nil)))))), ?_⟩
  obtain ⟨_, v, x, d, s', rfl, o, hc, ⟨b, rfl, hb⟩, hQ⟩ := h
  obtain ⟨t, p, q, us, ws, hc⟩ := hc.opened
  have hv := hc.hv
  subst hv
  refine q_unp3 (ev_var rfl) (st_of hc.ht) fun H1 e1 => ?_
  exact s_ret (evp_placeOf o (ev_var rfl) (LR.mono e1 hc.lrT) (evp_remem o.mem (ev_var rfl) (EvP.imp (evp_ev (ev_var rfl)) fun H2 H3 v e2 e3 hv => ⟨b, hv, (e1.trans (e2.trans e3)) _ _ hb⟩))) fun H2 e2 => hQ H2 (e1.trans e2)
def sp_place_behind (K : PySem.W.Frag) : Sp := fun vs H Q _ => vs.length = 3 ∧ ∃ (v : V) (d : Desk) (i a : Nat), vs = [v, .int i, .int a] ∧ CN.DeskOk d ∧ ChainV H v d ∧ i < nst d ∧ RetV (plV (placeOf (states d) (onTo d (CN.st d i) a))) H Q
theorem n2i_snoc (s : List Nat) (a : Nat) : n2i s ++ [(a : Int)] = n2i (s ++ [a]) := by
  unfold n2i
  rw [List.map_append]
  rfl
theorem st_len {d : Desk} (o : CN.DeskOk d) {i : Nat} (hi : i < nst d) : (CN.st d i).length ≤ 8 := by
  obtain ⟨c, hc, k, hk, e⟩ := CN.mem_states.mp (CN.st_mem hi)
  rw [e]
  have h1 := o.len c hc
  have h2 : (mind d.memory (c.1.take k)).length ≤ (c.1.take k).length := by
    unfold mind
    split
    · exact Nat.zero_le _
    · split
      · rcases List.eq_nil_or_concat (c.1.take k) with h | ⟨r, a, h⟩
        · rw [h]
          exact Nat.le_refl _
        · rw [h, List.concat_eq_append, List.getLast?_concat, List.length_append, List.length_singleton]
          show 1 ≤ r.length + 1
          omega
      · exact Nat.le_refl _
  rw [List.length_take] at h2
  omega
theorem sc_place_behind : FnScope ["chain", "place", "act", "memory", "things", "weights"] ["chain", "place", "act"] (defScope (top 28)) := ⟨rfl, rfl, rfl, by decide +kernel, rfl, by decide +kernel, by decide +kernel⟩
theorem cal_place_behind {P : Program} {w : World} {K : PySem.W.Frag} {mg : Str → Option Value} {base : Heap} (g : Glo K mg "place_behind" (top 28)) (T : Txt K mg) (c_place_of : Cal P w K mg base 1 "place_of" (sp_place_of K)) (c_remembered : Cal P w K mg base 1 "remembered" (sp_remembered K)) : Cal P w K mg base 2 "place_behind" (sp_place_behind K) := by
  refine cal_by g sc_place_behind (fun _ _ _ _ _ _ us hl => match us, hl with | [_, _, _], _ => rfl) (fun vs H Q E h => h.1) fun f cdv A outer s H vs Q E hr h => ?_
  have nd := sc_place_behind.nd
  refine ⟨_, (pss_cons (ps_asg (pv 0) (pg_tup rfl (pgs_cons (pg_name (i := 3) nd rfl (Or.inl rfl)) (pgs_cons (pg_name (i := 4) nd rfl (Or.inl rfl)) (pgs_cons (pg_name (i := 5) nd rfl (Or.inl rfl)) pgs_nil)))))
      (pss_one (ps_ret (C8.pe_c c_place_of hr (by decide) rfl (pa_cons (pv 4) (pa_cons (C8.pe_c c_remembered hr (by decide) rfl (pa_cons (pv 3) (pa_cons (pe_op op_cat (pe_ix ix_list (pv 4) (pv 1) (fun _ _ => rfl)) (pe_lst (pa_cons (pv 2) pa_nil))) pa_nil))) pa_nil)))))), ?_⟩
  obtain ⟨_, v, d, i, a, rfl, o, hc, hi, hQ⟩ := h
  obtain ⟨t, p, q, us, ws, hc⟩ := hc.opened
  have hv := hc.hv
  subst hv
  refine q_unp3 (ev_var rfl) (st_of hc.ht) fun H1 e1 => ?_
  obtain ⟨b, hb1, hb2, hb3⟩ := (hc.mono e1).hu i hi
  have hl := st_len o hi
  refine s_ret (evp_placeOf (s := onTo d (CN.st d i) a) o (ev_var rfl) (LR.mono e1 hc.lrT) (evp_remem (s := CN.st d i ++ [a]) o.mem (ev_var rfl) fun H2 e2 Q2 k2 => ?_)) fun H2 e2 => hQ H2 (e1.trans e2)
  refine (ev_row (K := K) (ev_var rfl) (ev_var rfl) (hc.mono e1).hp hb2) H2 e2 _ fun H3 e3 => ?_
  refine (el_lst (ea_cons (ev_var rfl) ea_nil) (by show 1 ≤ 100000; decide)) H3 (e2.trans e3) _ fun r H4 hr e4 hx => ?_
  refine ⟨b, r, _, _, rfl, rfl, ((e2.trans e3).trans e4) _ _ hb3, hx, sz_of (by rw [List.length_map, n2i_len]; show (CN.st d i).length + 1 ≤ 100000; omega), fun p8 hp8 => ?_⟩
  refine k2 _ _ ((e3.trans e4).trans (Ex.new hp8)) ⟨p8, rfl, ?_⟩
  rw [upd_same, ← n2i_snoc, List.map_append]
  rfl

/-! ### chance -/
theorem wt_le {d : Desk} (o : CN.DeskOk d) (i a : Nat) : wt d i a ≤ 14400 := Nat.le_trans (CN.fromTo_le o _ _) (CN.from_le o _)
theorem tot_le' {d : Desk} (o : CN.DeskOk d) (i : Nat) : tot d i ≤ 14400 := CN.from_le o _
theorem small_nat {n : Nat} (h : n ≤ 14400) : ((n : Nat) : Int).natAbs < 2 ^ 13500 := by
  rw [Int.natAbs_natCast]
  exact Nat.lt_of_le_of_lt h (Nat.lt_of_lt_of_le (by decide : 14400 < 2 ^ 14) (Nat.pow_le_pow_right (by decide) (by decide)))
def chq (d : Desk) (i a : Nat) : Rat := mkRat ((wt d i a : Nat) : Int) (tot d i)
def sp_chance (K : PySem.W.Frag) : Sp := fun vs H Q _ => vs.length = 3 ∧ ∃ (v : V) (d : Desk) (i a : Nat), vs = [v, .int i, .int a] ∧ CN.DeskOk d ∧ ChainV H v d ∧ i < nst d ∧ a < 11 ∧ NewFr H (chq d i a) Q
theorem ev_sumL {K : PySem.W.Frag} {σ : L2.St} {H : Hp} {ta : TE} {b : Addr} {xs : List Int} (ha : Ev ta σ H (.ref b)) (hb : H b = some (.lst (xs.map V.int))) : Ev (tCB (rSum K) (tCons ta tNil)) σ H (.int xs.sum) :=
  ev_cb (ea_cons ha ea_nil) fun H1 e1 Q k => ⟨b, xs, rfl, sq_of (e1 _ _ hb), k H1 (Ex.refl H1)⟩
theorem sc_chance : FnScope ["chain", "place", "what", "memory", "things", "weights"] ["chain", "place", "what"] (defScope (top 43)) := ⟨rfl, rfl, rfl, by decide +kernel, rfl, by decide +kernel, by decide +kernel⟩
theorem cal_chance {P : Program} {w : World} {K : PySem.W.Frag} {mg : Str → Option Value} {base : Heap} (g : Glo K mg "chance" (top 43)) (T : Txt K mg) (c_lowest : Cal P w K mg base 2 "lowest" (sp_lowest K)) : Cal P w K mg base 3 "chance" (sp_chance K) := by
  refine cal_by g sc_chance (fun _ _ _ _ _ _ us hl => match us, hl with | [_, _, _], _ => rfl) (fun vs H Q E h => h.1) fun f cdv A outer s H vs Q E hr h => ?_
  have nd := sc_chance.nd
  refine ⟨_, (pss_cons (ps_asg (pv 0) (pg_tup rfl (pgs_cons (pg_name (i := 3) nd rfl (Or.inl rfl)) (pgs_cons (pg_name (i := 4) nd rfl (Or.inl rfl)) (pgs_cons (pg_name (i := 5) nd rfl (Or.inl rfl)) pgs_nil)))))
      (pss_one (ps_ret (C8.pe_c c_lowest hr (by decide) rfl (pa_cons (pe_ix ix_list (pe_ix ix_list (pv 5) (pv 1) (fun _ _ => rfl)) (pv 2) (fun _ _ => rfl)) (pa_cons (pe_callB (cr_sum rfl) (by rfl) T.sum (by decide +kernel) (pa_cons (pe_ix ix_list (pv 5) (pv 1) (fun _ _ => rfl)) pa_nil)) pa_nil)))))), ?_⟩
  obtain ⟨_, v, d, i, a, rfl, o, hc, hi, ha, hQ⟩ := h
  obtain ⟨t, p, q, us, ws, hc⟩ := hc.opened
  have hv := hc.hv
  subst hv
  refine q_unp3 (ev_var rfl) (st_of hc.ht) fun H1 e1 => ?_
  obtain ⟨b, hb1, hb2, hb3⟩ := (hc.mono e1).hw i hi
  have tp := CN.tot_pos o hi
  have l1 := wt_le o i a
  have l2 := tot_le' o i
  refine s_retP (evp_callA (R := fun H1 H2 v => ∃ p, v = .ref p ∧ H1 p = none ∧ H2 p = some (.tup [.int (chq d i a).num, .int (chq d i a).den]))
    (ea_cons (ev_cell (K := K) (ev_row (K := K) (ev_var rfl) (ev_var rfl) (hc.mono e1).hq hb2) (ev_var rfl) hb3 (by rw [wrow_len]; exact ha)) (ea_cons (ev_sumL (ev_row (K := K) (ev_var rfl) (ev_var rfl) (hc.mono e1).hq hb2) hb3) ea_nil)) fun H2 e2 Q2 k2 E2 => ?_)
    fun z H2 e2 ⟨H0, e0, p, hz, hp, hx⟩ => ?_
  · rw [wrow_get ha, wrow_sum o]
    exact ⟨rfl, _, _, rfl, Int.natCast_nonneg _, by omega, small_nat l1, small_nat l2, fun p H3 hp e3 hx => k2 _ H3 e3 ⟨p, rfl, hp, by rw [Int.toNat_natCast] at hx; exact hx⟩⟩
  · subst hz
    exact hQ p H2 (fresh_back (e1.trans e0) hp) (e1.trans e2) hx
end CW
/-! What comes next; the equations; what is sought. -/
namespace CW
open PySem PySem.Spec PyProof.Rows L2 Evl
open Km522 (n2i mind Desk Case END states onTo from_ fromTo)
open CN (Stp thg tab trow stepsOf nst wt tot nxt)

theorem ChO.cell {K : PySem.W.Frag} {H : Hp} {v : V} {d : Desk} {t p q : Addr} {us ws : List V} (h : ChO H v d t p q us ws) {i a : Nat} (hi : i < nst d) (ha : a < 11) {σ : L2.St} {ta tb tc : TE} (e1 : Ev ta σ H (.ref q)) (e2 : Ev tb σ H (.int (i : Int))) (e3 : Ev tc σ H (.int (a : Int))) :
    Ev (tOp (rIxL K) (tOp (rIxL K) ta tb) tc) σ H (.int (wt d i a : Nat)) := by
  obtain ⟨b, hb1, hb2, hb3⟩ := h.hw i hi
  rw [← wrow_get ha]
  exact ev_cell (ev_row e1 e2 h.hq hb2) e3 hb3 (by rw [wrow_len]; exact ha)
def likK (d : Desk) (s : List Nat) (k : Nat) : Nat := (List.range k).foldl (fun (b a : Nat) => if fromTo d s b < fromTo d s a then a else b) 0
theorem likK_succ (d : Desk) (s : List Nat) (k : Nat) : likK d s (k + 1) = if fromTo d s (likK d s k) < fromTo d s k then k else likK d s k := by
  unfold likK
  rw [List.range_succ, List.foldl_append]
  rfl
theorem likK_lt (d : Desk) (s : List Nat) : ∀ k, k ≤ 11 → likK d s k < 11
  | 0, _ => by show 0 < 11; decide
  | k + 1, h => by
    rw [likK_succ]
    split
    · omega
    · exact likK_lt d s k (by omega)
def sp_likeliest (K : PySem.W.Frag) : Sp := fun vs H Q _ => vs.length = 2 ∧ ∃ (v : V) (d : Desk) (i : Nat), vs = [v, .int i] ∧ ChainV H v d ∧ i < nst d ∧ RetV (.int (Km522.likeliest d (CN.st d i) : Nat)) H Q
theorem sc_likeliest : FnScope ["chain", "place", "memory", "things", "weights", "found", "what"] ["chain", "place"] (defScope (top 44)) := ⟨rfl, rfl, rfl, by decide +kernel, rfl, by decide +kernel, by decide +kernel⟩
theorem cal_likeliest {P : Program} {w : World} {K : PySem.W.Frag} {mg : Str → Option Value} {base : Heap} (g : Glo K mg "likeliest" (top 44)) (T : Txt K mg) : Cal P w K mg base 1 "likeliest" (sp_likeliest K) := by
  refine cal_by g sc_likeliest (fun _ _ _ _ _ _ us hl => match us, hl with | [_, _], _ => rfl) (fun vs H Q E h => h.1) fun f cdv A outer s H vs Q E hr h => ?_
  have nd := sc_likeliest.nd
  refine ⟨_, (pss_cons (ps_asg (pv 0) (pg_tup rfl (pgs_cons (pg_name (i := 2) nd rfl (Or.inl rfl)) (pgs_cons (pg_name (i := 3) nd rfl (Or.inl rfl)) (pgs_cons (pg_name (i := 4) nd rfl (Or.inl rfl)) pgs_nil)))))
      (pss_cons (ps_set (i := 5) nd rfl (Or.inl rfl) pe_int)
      (pss_cons (ps_for PassesOwn.never rfl (pi_range1 rfl T.range (pa_cons (pe_op op_add (C8.pe_gc rfl T.END) pe_int) pa_nil)) (pg_name (i := 6) nd rfl (Or.inl rfl)) (pss_one (ps_if (pt_cmpR op_gt (pe_ix ix_list (pe_ix ix_list (pv 4) (pv 1) (fun _ _ => rfl)) (pv 6) (fun _ _ => rfl)) (pe_ix ix_list (pe_ix ix_list (pv 4) (pv 1) (fun _ _ => rfl)) (pv 5) (fun _ _ => rfl)) (nomark _)) (pss_one (ps_set (i := 5) nd rfl (Or.inl rfl) (pv 6))) pss_nil)))
      (pss_one (ps_ret (pv 5)))))), ?_⟩
  obtain ⟨_, v, d, i, rfl, hc, hi, hQ⟩ := h
  obtain ⟨t, p, q, us, ws, hc⟩ := hc.opened
  have hv := hc.hv
  subst hv
  refine q_unp3 (ev_var rfl) (st_of hc.ht) fun H1 e1 => ?_
  refine q_asg ev_c fun H2 e2 => ?_
  refine q_forR1 (n := 11) (ea_cons (ev_op ev_c ev_c rv_I0) ea_nil) (by decide) (fun k σ H' => ∃ z : Option V, σ = [some (.ref t), some (.int i), some (.int (d.memory : Nat)), some (.ref p), some (.ref q), some (.int (likK d (CN.st d i) k : Nat)), z] ∧ Ex H H')
    (fun H3 e3 => ⟨none, rfl, (e1.trans e2).trans e3⟩) ?_ ?_
  · rintro k σ H' hk ⟨z, rfl, e⟩
    have hk' : k < 11 := by omega
    have hb := likK_lt d (CN.st d i) k (by omega)
    refine s_when (et_test (ev_op ((hc.mono e).cell hi hk' (ev_var rfl) (ev_var rfl) (ev_var rfl)) ((hc.mono e).cell hi hb (ev_var rfl) (ev_var rfl) (ev_var rfl)) rv_I0)) (fun hb3 H3 e3 => ?_) (fun hb3 H3 e3 => ?_)
    · have hlt := of_decide_eq_true hb3
      refine s_asg (ev_var rfl) fun H4 e4 => ⟨some (.int (k : Int)), ?_, (e.trans e3).trans e4⟩
      rw [likK_succ, if_pos (show fromTo d (CN.st d i) (likK d (CN.st d i) k) < fromTo d (CN.st d i) k from Int.ofNat_lt.mp hlt)]
      rfl
    · have hlt := of_decide_eq_false hb3
      refine ⟨some (.int (k : Int)), ?_, e.trans e3⟩
      rw [likK_succ, if_neg (show ¬ fromTo d (CN.st d i) (likK d (CN.st d i) k) < fromTo d (CN.st d i) k from fun z => hlt (Int.ofNat_lt.mpr z))]
      rfl
  · rintro σ H' ⟨z, rfl, e⟩
    exact s_ret (ev_var rfl) fun H3 e3 => hQ H3 (e.trans e3)
def sp_possible (K : PySem.W.Frag) : Sp := fun vs H Q _ => vs.length = 2 ∧ ∃ (v : V) (d : Desk) (i : Nat), vs = [v, .int i] ∧ ChainV H v d ∧ i < nst d ∧ NewI H (n2i ((List.range 11).filter fun a => fromTo d (CN.st d i) a != 0)) Q
theorem sc_possible : FnScope ["chain", "place", "memory", "things", "weights", "what"] ["chain", "place"] (defScope (top 45)) := ⟨rfl, rfl, rfl, by decide +kernel, rfl, by decide +kernel, by decide +kernel⟩
theorem cal_possible {P : Program} {w : World} {K : PySem.W.Frag} {mg : Str → Option Value} {base : Heap} (g : Glo K mg "possible" (top 45)) (T : Txt K mg) : Cal P w K mg base 1 "possible" (sp_possible K) := by
  refine cal_by g sc_possible (fun _ _ _ _ _ _ us hl => match us, hl with | [_, _], _ => rfl) (fun vs H Q E h => h.1) fun f cdv A outer s H vs Q E hr h => ?_
  have nd := sc_possible.nd
  refine ⟨_, (pss_cons (ps_asg (pv 0) (pg_tup rfl (pgs_cons (pg_name (i := 2) nd rfl (Or.inl rfl)) (pgs_cons (pg_name (i := 3) nd rfl (Or.inl rfl)) (pgs_cons (pg_name (i := 4) nd rfl (Or.inr rfl)) pgs_nil)))))
      (pss_one (ps_ret (pe_lc (own := [("what", 5)]) rfl nd (pi_range1 rfl T.range (pa_cons (pe_op op_add (C8.pe_gc rfl T.END) pe_int) pa_nil)) (blkOk_by (own := [("what", 5)]) (N := ["chain", "place", "memory", "things", "weights", "what"]) (sc := defScope (top 45)) (by decide +kernel)) (fun _ _ _ _ _ => by exact (pg_name (i := 5) nd rfl (Or.inl rfl))) (fun _ _ _ _ _ => by exact (pts_one (pt_cmpR op_gt (pe_ix (ix_listK K rfl) (pe_ix (ix_listK K rfl) (pv 4) (pv 1) (fun _ _ => rfl)) (pv 5) (fun _ _ => rfl)) pe_int (nomark _)))) (fun _ _ _ _ _ => by exact (pv 5)))))), ?_⟩
  obtain ⟨_, v, d, i, rfl, hc, hi, hQ⟩ := h
  obtain ⟨t, p, q, us, ws, hc⟩ := hc.opened
  have hv := hc.hv
  subst hv
  refine q_unp3 (ev_var rfl) (st_of hc.ht) fun H1 e1 => ?_
  refine s_retL (el_lcR1 (n := 11) (fun a => decide ((0 : Int) < (wt d i a : Nat))) (fun a => .int (a : Nat)) (ea_cons (ev_op ev_c ev_c rv_I0) ea_nil) (by decide) (fun _ => rfl) (fun a H2 e2 ha => ?_) (fun a H2 e2 ha _ => ev_var rfl)) fun r H2 hr e2 hx => ?_
  · exact et_test (ev_op ((hc.mono (e1.trans e2)).cell (K := K) hi (by omega) (ev_var rfl) (ev_var rfl) (ev_var rfl)) ev_c rv_I0)
  · refine hQ r H2 (fresh_back e1 hr) (e1.trans e2) ?_
    rw [hx]
    unfold given n2i
    rw [List.map_map]
    have e3 : (fun a => decide ((0 : Int) < (wt d i a : Nat))) = fun a => fromTo d (CN.st d i) a != 0 := by
      funext a
      have e4 : decide ((0 : Int) < (wt d i a : Nat)) = decide (fromTo d (CN.st d i) a ≠ 0) := decide_eq_decide.mpr (by
        show (0 : Int) < (fromTo d (CN.st d i) a : Nat) ↔ _
        omega)
      rw [e4]
      cases c : fromTo d (CN.st d i) a with
      | zero => rfl
      | succ n => rfl
    rw [e3]
    rfl

/-! ### equation -/
section
variable {K : PySem.W.Frag} {σ : L2.St} {H : Hp} {ta tb : TE} {xs ys : List V}
theorem el_catLL (ha : EvL ta σ H xs) (hb : EvL tb σ H ys) (hz : xs.length + ys.length ≤ 100000) : EvL (tOp rCat ta tb) σ H (xs ++ ys) := fun H1 e Q q => ha H1 e _ fun p H2 hp e2 hx => hb H2 (e.trans e2) _ fun r H3 hr e3 hy =>
  ⟨p, r, xs, ys, rfl, rfl, e3 _ _ hx, hy, sz_of hz, fun l hl => q l _ (fresh_back (e2.trans e3) hl) ((e2.trans e3).trans (Ex.new hl)) upd_same⟩
theorem el_catLV {b : Addr} (ha : EvL ta σ H xs) (hb : Ev tb σ H (.ref b)) (hy : H b = some (.lst ys)) (hz : xs.length + ys.length ≤ 100000) : EvL (tOp rCat ta tb) σ H (xs ++ ys) := fun H1 e Q q => ha H1 e _ fun p H2 hp e2 hx => hb H2 (e.trans e2) _ fun H3 e3 =>
  ⟨p, b, xs, ys, rfl, rfl, e3 _ _ hx, ((e.trans e2).trans e3) _ _ hy, sz_of hz, fun l hl => q l _ (fresh_back (e2.trans e3) hl) ((e2.trans e3).trans (Ex.new hl)) upd_same⟩
end
def sp_equation (K : PySem.W.Frag) : Sp := fun vs H Q _ => vs.length = 4 ∧ ∃ (v : V) (d : Desk) (i : Nat) (g : Int) (last : Nat), vs = [v, .int i, .int g, .int last] ∧ CN.DeskOk d ∧ ChainV H v d ∧ i < nst d ∧ NewI H (CN.eqRow d last g i) Q
theorem place_next {d : Desk} (o : CN.DeskOk d) {i a : Nat} (ha : a < 10) (hw : 0 < wt d i a) : placeOf (states d) (onTo d (CN.st d i) a) = some (nxt d i a) := by
  unfold placeOf
  rw [if_pos (CN.onTo_mem o ha hw)]
  rfl
theorem sc_equation : FnScope ["chain", "place", "gain", "last", "memory", "things", "weights", "row", "act", "many", "behind", "one"] ["chain", "place", "gain", "last"] (defScope (top 46)) := ⟨rfl, rfl, rfl, by decide +kernel, rfl, by decide +kernel, by decide +kernel⟩
theorem cal_equation {P : Program} {w : World} {K : PySem.W.Frag} {mg : Str → Option Value} {base : Heap} (g : Glo K mg "equation" (top 46)) (T : Txt K mg) (c_place_behind : Cal P w K mg base 2 "place_behind" (sp_place_behind K)) : Cal P w K mg base 3 "equation" (sp_equation K) := by
  refine cal_by g sc_equation (fun _ _ _ _ _ _ us hl => match us, hl with | [_, _, _, _], _ => rfl) (fun vs H Q E h => h.1) fun f cdv A outer s H vs Q E hr h => ?_
  have nd := sc_equation.nd
  refine ⟨_, (pss_cons (ps_asg (pv 0) (pg_tup rfl (pgs_cons (pg_name (i := 4) nd rfl (Or.inl rfl)) (pgs_cons (pg_name (i := 5) nd rfl (Or.inl rfl)) (pgs_cons (pg_name (i := 6) nd rfl (Or.inl rfl)) pgs_nil)))))
      (pss_cons (ps_set (i := 7) nd rfl (Or.inl rfl) (pe_op op_cat (pe_lc (own := [("one", 11)]) rfl nd (pi_list (pv 5)) (blkOk_by (own := [("one", 11)]) (N := ["chain", "place", "gain", "last", "memory", "things", "weights", "row", "act", "many", "behind", "one"]) (sc := defScope (top 46)) (by decide +kernel)) (fun _ _ _ _ _ => by exact (pg_name (i := 11) nd rfl (Or.inl rfl))) (fun _ _ _ _ _ => by exact pts_nil) (fun _ _ _ _ _ => by exact pe_int)) (pe_lst (pa_cons (pv 2) pa_nil))))
      (pss_cons (ps_asg (pe_callB (cr_sum rfl) (by rfl) T.sum (by decide +kernel) (pa_cons (pe_ix ix_list (pv 6) (pv 1) (fun _ _ => rfl)) pa_nil)) (pg_sub (pv 7) (pv 1) set_list))
      (pss_cons (ps_for PassesOwn.never rfl (pi_range1 rfl T.range (pa_cons (C8.pe_gc rfl T.ACTS) pa_nil)) (pg_name (i := 8) nd rfl (Or.inl rfl)) (pss_cons (ps_set (i := 9) nd rfl (Or.inl rfl) (pe_ix ix_list (pe_ix ix_list (pv 6) (pv 1) (fun _ _ => rfl)) (pv 8) (fun _ _ => rfl)))
      (pss_one (ps_if (PW.pt (pw_and (pt_cmpR op_gt (pv 9) pe_int (nomark _)) (pw_and1 (pt_cmpR op_ne (pv 8) (pv 3) (nomark _))))) (pss_cons (ps_set (i := 10) nd rfl (Or.inl rfl) (C8.pe_c c_place_behind hr (by decide) rfl (pa_cons (pv 0) (pa_cons (pv 1) (pa_cons (pv 8) pa_nil)))))
      (pss_one (ps_asg (pe_op op_sub (pe_ix ix_list (pv 7) (pv 10) (fun _ _ => rfl)) (pv 9)) (pg_sub (pv 7) (pv 10) set_list)))) pss_nil))))
      (pss_one (ps_ret (pv 7))))))), ?_⟩
  obtain ⟨_, v, d, i, gg, last, rfl, o, hc0, hi, hQ⟩ := h
  obtain ⟨t, p, q, us, ws, hc⟩ := hc0.opened
  have hv := hc.hv
  subst hv
  have hn : nst d ≤ 144 := CN.states_len o
  refine q_unp3 (ev_var rfl) (st_of hc.ht) fun H1 e1 => ?_
  refine q_asgL (xs := (List.replicate (nst d) (0 : Int) ++ [gg]).map V.int) (by
      have e := el_catLL (el_lcL (K := K) (te := tC (.int 0)) (t := tYes) (tl := tVar 5) (j := 11) (vs := [11]) (σ := [some (.ref t), some (.int i), some (.int gg), some (.int last), some (.int (d.memory : Nat)), some (.ref p), some (.ref q), none, none, none, none, none]) (fun _ => true) (fun _ => .int 0) (ev_var rfl) (sq_of (hc.mono e1).hp) (by rw [hc.ul]; omega) (fun _ => rfl) (fun i x H2 _ _ => et_yes) (fun i x H2 _ _ _ => ev_c)) (el_lst (ta := tCons (tVar 2) tNil) (ea_cons (ev_var rfl) ea_nil) (by show 1 ≤ 100000; decide)) (by rw [given_all, List.length_map, List.length_range, hc.ul]; show nst d + 1 ≤ 100000; omega)
      rw [given_all, rep_map, hc.ul] at e
      rw [List.map_append]
      exact e) fun r H2 hr e2 hx => ?_
  have hr0 : H r = none := fresh_back e1 hr
  obtain ⟨b, hb1, hb2, hb3⟩ := (hc.mono (e1.trans e2)).hw i hi
  refine q_setL (l := r) (j := i) hx (ev_sumL (ev_row (K := K) (ev_var rfl) (ev_var rfl) (hc.mono (e1.trans e2)).hq hb2) hb3) (ev_var rfl) (ev_var rfl) (by rw [List.length_map, List.length_append, List.length_replicate]; omega) fun H3 e3 => ?_
  have ex3 : Ex H (upd H3 r (.lst (((List.replicate (nst d) (0 : Int) ++ [gg]).map V.int).set i (.int (wrow d i).sum)))) := Ex.mut ((e1.trans e2).trans e3) hr0
  refine q_forR1 (n := 10) (ea_cons ev_c ea_nil) (by decide) (fun k σ H' => ∃ (z1 z2 z3 : Option V), σ = [some (.ref t), some (.int i), some (.int gg), some (.int last), some (.int (d.memory : Nat)), some (.ref p), some (.ref q), some (.ref r), z1, z2, z3, none] ∧ Ex H H' ∧
      H' r = some (.lst ((CN.eqFold d last gg i k).map V.int))) (fun H4 e4 => ⟨none, none, none, rfl, ex3.trans e4, e4 _ _ ?_⟩) ?_ ?_
  · rw [upd_same, wrow_sum o]
    show some (HO.lst _) = some (HO.lst ((CN.eqStart d gg i).map V.int))
    unfold CN.eqStart
    rw [List.map_set]
  · rintro k σ H' hk ⟨z1, z2, z3, rfl, e, hx4⟩
    have hk' : k < 10 := by omega
    refine q_asg ((hc.mono e).cell hi (by omega) (ev_var rfl) (ev_var rfl) (ev_var rfl)) fun H4 e4 => ?_
    have eT : (decide ((0 : Int) < (wt d i k : Nat)) && (!decide (V.int (k : Int) = V.int (last : Int)))) = decide (0 < wt d i k ∧ k ≠ last) := by
      have a1 : decide ((0 : Int) < (wt d i k : Nat)) = decide (0 < wt d i k) := decide_eq_decide.mpr (by omega)
      have a2 : (!decide (V.int (k : Int) = V.int (last : Int))) = decide (k ≠ last) := by
        by_cases z : k = last
        · rw [decide_eq_true (show V.int (k : Int) = V.int (last : Int) by rw [z]), decide_eq_false (fun h : k ≠ last => h z)]
          rfl
        · rw [decide_eq_false (fun h : V.int (k : Int) = V.int (last : Int) => z (Int.ofNat.inj (V.int.inj h))), decide_eq_true z]
          rfl
      rw [a1, a2, Bool.decide_and]
    refine s_when (et_is (et_and (et_test (ev_op (ev_var rfl) ev_c rv_I0)) (fun _ => et_test (ev_op (ev_var rfl) (ev_var rfl) (rv_ne rfl)))) eT) (fun hb5 H5 e5 => ?_) (fun hb5 H5 e5 => ?_)
    · have cond := of_decide_eq_true hb5
      have ee := (e.trans e4).trans e5
      have nl := CN.nxt_lt o hk' cond.1
      refine q_asg (v := .int (nxt d i k : Nat)) (ev_callV (ea_cons (ev_var rfl) (ea_cons (ev_var rfl) (ea_cons (ev_var rfl) ea_nil))) fun H6 e6 Q6 k6 E6 => ⟨rfl, _, d, i, k, rfl, o, hc0.mono (ee.trans e6), hi, fun H7 e7 => by
        rw [place_next o hk' cond.1]
        exact k6 H7 e7⟩) fun H6 e6 => ?_
      have hx6 := ((e4.trans e5).trans e6) _ _ hx4
      have fl : nxt d i k < (CN.eqFold d last gg i k).length := by rw [CN.eqFold_len]; omega
      refine s_setL (l := r) (j := nxt d i k) hx6 (ev_op (ev_cell (K := K) (ev_var rfl) (ev_var rfl) hx6 fl) (ev_var rfl) rv_I0) (ev_var rfl) (ev_var rfl) (by rw [List.length_map]; exact fl) fun H7 e7 => ⟨_, _, _, rfl, Ex.mut ((ee.trans e6).trans e7) hr0, ?_⟩
      rw [upd_same, CN.eqFold_succ]
      unfold CN.eqStep
      rw [if_pos cond, List.map_set]
    · have cond := of_decide_eq_false hb5
      refine ⟨_, _, _, rfl, (e.trans e4).trans e5, ?_⟩
      rw [CN.eqFold_succ]
      unfold CN.eqStep
      rw [if_neg cond]
      exact (e4.trans e5) _ _ hx4
  · rintro σ H' ⟨z1, z2, z3, rfl, e, hx4⟩
    exact s_ret (ev_var rfl) fun H4 e4 => hQ r H4 hr0 (e.trans e4) (e4 _ _ hx4)

/-! ### what is sought -/
def gainsOf (d : Desk) (g : List Nat → Nat) : List Int := (List.range (nst d)).map fun i => (g (CN.st d i) : Int)
theorem gainsOf_get {d : Desk} {g : List Nat → Nat} {i : Nat} (hi : i < nst d) : (gainsOf d g).getD i 0 = (g (CN.st d i) : Int) := CN.range_map_getD hi
theorem gainsOf_len (d : Desk) (g : List Nat → Nat) : (gainsOf d g).length = nst d := by
  unfold gainsOf
  rw [List.length_map, List.length_range]
theorem range_get {α : Type} {n i : Nat} {f : Nat → α} {x : α} (h : ((List.range n).map f)[i]? = some x) : i < n ∧ x = f i := by
  rw [List.getElem?_map] at h
  cases c : (List.range n)[i]? with
  | none =>
    rw [c] at h
    cases h
  | some m =>
    rw [c] at h
    obtain ⟨h1, h2⟩ := List.getElem?_eq_some_iff.mp c
    rw [List.length_range] at h1
    rw [List.getElem_range] at h2
    subst h2
    exact ⟨h1, (Option.some.inj h).symm⟩
def sp_sought (K : PySem.W.Frag) : Sp := fun vs H Q _ => vs.length = 3 ∧ ∃ (v x : V) (d : Desk) (g : List Nat → Nat) (last : Nat), vs = [v, x, .int last] ∧ CN.DeskOk d ∧ ChainV H v d ∧ LI H x (gainsOf d g) ∧ (∀ s ∈ states d, g s ≤ 14400) ∧ NewF K H (CN.xsol d last g) Q
theorem sc_sought : FnScope ["chain", "gains", "last", "rows", "place"] ["chain", "gains", "last"] (defScope (top 47)) := ⟨rfl, rfl, rfl, by decide +kernel, rfl, by decide +kernel, by decide +kernel⟩
theorem cal_sought {P : Program} {w : World} {K : PySem.W.Frag} {mg : Str → Option Value} {base : Heap} (g : Glo K mg "sought" (top 47)) (T : Txt K mg) (c_equation : Cal P w K mg base 3 "equation" (sp_equation K)) (c_solved : Cal P w K mg base 4 "solved" (sp_solved K)) : Cal P w K mg base 5 "sought" (sp_sought K) := by
  refine cal_by g sc_sought (fun _ _ _ _ _ _ us hl => match us, hl with | [_, _, _], _ => rfl) (fun vs H Q E h => h.1) fun f cdv A outer s H vs Q E hr h => ?_
  have nd := sc_sought.nd
  refine ⟨_, (pss_cons (ps_set (i := 3) nd rfl (Or.inl rfl) (pe_lst pa_nil))
      (pss_cons (ps_for PassesOwn.never rfl (pi_range1 rfl T.range (pa_cons (pe_callB call_len_seq (by rfl) T.len PySem.boot_len (pa_cons (pv 1) pa_nil)) pa_nil)) (pg_name (i := 4) nd rfl (Or.inl rfl)) (pss_one (ps_expr (pe_bm PySem.F.plainAttrs_list PySem.F.slot_list_append PySem.F.type_list_append mt_append (pv 3) (pa_cons (C8.pe_c c_equation hr (by decide) rfl (pa_cons (pv 0) (pa_cons (pv 4) (pa_cons (pe_ix ix_list (pv 1) (pv 4) (fun _ _ => rfl)) (pa_cons (pv 2) pa_nil))))) pa_nil)))))
      (pss_one (ps_ret (C8.pe_c c_solved hr (by decide) rfl (pa_cons (pv 3) pa_nil)))))), ?_⟩
  obtain ⟨_, v, x, d, gn, last, rfl, o, hc, ⟨a, rfl, ha⟩, hg, hQ⟩ := h
  have hn : nst d ≤ 144 := CN.states_len o
  refine q_asgL (el_lst ea_nil (by decide)) fun F H1 hF e1 h1 => ?_
  refine q_forR1 (n := (nst d : Int)) (by
      have e : (nst d : Int) = ((((gainsOf d gn).map V.int).length : Nat) : Int) := by rw [List.length_map, gainsOf_len]
      rw [e]
      exact ea_cons (ev_len (ev_var rfl) (sq_of (e1 _ _ ha))) ea_nil) (by omega)
    (fun i σ H' => ∃ z : Option V, σ = [some v, some (.ref a), some (.int last), some (.ref F), z] ∧ Ex H H' ∧ ∃ ws, H' F = some (.lst ws) ∧ ws.length = i ∧ ∀ j w, ws[j]? = some w → LI (hide F H') w (CN.eqRow d last (gn (CN.st d j) : Int) j))
    (fun H2 e2 => ⟨none, rfl, e1.trans e2, [], e2 _ _ h1, rfl, fun j w hj => by simp at hj⟩) ?_ ?_
  · rintro i σ H' hi ⟨z, rfl, e, ws, hw1, hw2, hw3⟩
    have hi' : i < nst d := by omega
    refine s_appP (R := fun H1 H2 v => ∃ H0, Ex H1 H0 ∧ ∃ p, v = .ref p ∧ H0 p = none ∧ H2 p = some (.lst ((CN.eqRow d last (gn (CN.st d i) : Int) i).map V.int))) hw1 (ev_var rfl)
      (evp_callA (ea_cons (ev_var rfl) (ea_cons (ev_var rfl) (ea_cons (ev_cell (K := K) (ev_var rfl) (ev_var rfl) (e _ _ ha) (by rw [gainsOf_len]; exact hi')) (ea_cons (ev_var rfl) ea_nil)))) fun H3 e3 Q3 k3 E3 => by
        rw [gainsOf_get hi']
        exact ⟨rfl, v, d, i, _, last, rfl, o, hc.mono (e.trans e3), hi', fun p H4 hp e4 hx => k3 _ H4 e4 ⟨p, rfl, hp, hx⟩⟩)
      (by omega) fun v H3 H4 e3 e4 ⟨H0, e0, p, hv', hp, hx⟩ => ⟨_, rfl, Ex.mut ((e.trans e3).trans e4) hF, ws ++ [v], upd_same, by rw [List.length_append, hw2]; rfl, fun j w hj => ?_⟩
    rw [hide_upd]
    rcases getElem_snoc hj with z | ⟨z1, z2⟩
    · exact (hw3 j w z).mono (hide_mono (e3.trans e4))
    · rw [z1, z2, hw2, hv']
      refine ⟨p, rfl, ?_⟩
      have hF3 := (e3.trans e0) _ _ hw1
      rw [hide_ne (fun z => by rw [z, hF3] at hp; cases hp)]
      exact hx
  · rintro σ H' ⟨z, rfl, e, ws, hw1, hw2, hw3⟩
    have lr : LR H' (.ref F) (CN.eqRows d last gn) := ⟨F, ws, rfl, hw1, by
      unfold CN.eqRows
      rw [List.length_map, List.length_range]
      omega, fun i u xs hu hxs => by
      obtain ⟨_, e1⟩ := range_get hxs
      rw [e1]
      exact (hw3 i u hu).mono hide_ex⟩
    have ok := CN.eqRows_ok (last := last) (g := gn) o hg
    refine s_retP (evp_callA (R := fun H1 H2 v => ∃ p, v = .ref p ∧ H1 p = none ∧ LF K H2 (.ref p) (CN.xsol d last gn)) (ea_cons (ev_var rfl) ea_nil) fun H3 e3 Q3 k3 E3 => ⟨rfl, _, _, nst d, rfl, LR.mono e3 lr, by omega, CN.eqRows_shape.1, ok, fun p H4 hp e4 hx => k3 _ H4 e4 ⟨p, rfl, hp, hx⟩⟩)
      fun v H3 e3 ⟨H0, e0, p, hv', hp, hx⟩ => ?_
    subst hv'
    exact hQ p H3 (fresh_back (e.trans e0) hp) (e.trans e3) hx
/-- a fraction that is handed back -/
def RetFr (K : PySem.W.Frag) (H : Hp) (r : Rat) (Q : VK) : Prop := ∀ v H', Ex H H' → FrV K H' v r → Q v H'
theorem evp_ixF {K : PySem.W.Frag} {σ : L2.St} {H : Hp} {ta tb : TE} {rs : List Rat} {i : Nat} (ha : EvP ta σ H (fun _ H2 v => LF K H2 v rs)) (hb : Ev tb σ H (.int (i : Int))) (hi : i < rs.length) : EvP (tOp (rIxL K) ta tb) σ H (fun _ H2 v => FrV K H2 v (rs.getD i 0)) :=
  fun H1 e Q q => ha H1 e _ fun v H2 e2 ⟨a, ws, hv, hx, hl, hr⟩ => hb H2 (e.trans e2) _ fun H3 e3 => by
    have hiw : i < ws.length := by rw [hl]; exact hi
    have e4 : ws[i]? = some (ws[i]'hiw) := List.getElem?_eq_getElem hiw
    refine ⟨a, ws, _, _, hv, rfl, sq_of (e3 _ _ hx), atI_nat e4, q _ H3 (e2.trans e3) ((hr i _ (rs.getD i 0) e4 ?_).mono e3)⟩
    rw [List.getD_eq_getElem?_getD, List.getElem?_eq_getElem hi]
    rfl
theorem rng_of {ws : List V} {d : Desk} {f : Nat → Int} (h : ws.length = nst d) : given ws.length (fun _ => true) (fun i => V.int (f i)) = ((List.range (nst d)).map f).map V.int := by
  rw [given_all, List.map_map, h]
  rfl
def gAw (d : Desk) (s : List Nat) : Nat := from_ d s - fromTo d s 10
def sp_awaited (K : PySem.W.Frag) : Sp := fun vs H Q _ => vs.length = 2 ∧ ∃ (v : V) (d : Desk) (i : Nat), vs = [v, .int i] ∧ CN.DeskOk d ∧ ChainV H v d ∧ i < nst d ∧ RetFr K H ((CN.xsol d 10 (gAw d)).getD i 0) Q
theorem sc_awaited : FnScope ["chain", "place", "memory", "things", "weights", "gains", "row"] ["chain", "place"] (defScope (top 48)) := ⟨rfl, rfl, rfl, by decide +kernel, rfl, by decide +kernel, by decide +kernel⟩
theorem cal_awaited {P : Program} {w : World} {K : PySem.W.Frag} {mg : Str → Option Value} {base : Heap} (g : Glo K mg "awaited" (top 48)) (T : Txt K mg) (c_sought : Cal P w K mg base 5 "sought" (sp_sought K)) : Cal P w K mg base 6 "awaited" (sp_awaited K) := by
  refine cal_by g sc_awaited (fun _ _ _ _ _ _ us hl => match us, hl with | [_, _], _ => rfl) (fun vs H Q E h => h.1) fun f cdv A outer s H vs Q E hr h => ?_
  have nd := sc_awaited.nd
  refine ⟨_, (pss_cons (ps_asg (pv 0) (pg_tup rfl (pgs_cons (pg_name (i := 2) nd rfl (Or.inl rfl)) (pgs_cons (pg_name (i := 3) nd rfl (Or.inl rfl)) (pgs_cons (pg_name (i := 4) nd rfl (Or.inl rfl)) pgs_nil)))))
      (pss_cons (ps_setLc (i := 5) (own := [("row", 6)]) rfl nd rfl rfl (sw_true rfl rfl rfl (by decide +kernel)) (pi_list (pv 4)) (blkOk_by (own := [("row", 6)]) (N := ["chain", "place", "memory", "things", "weights", "gains", "row"]) (sc := defScope (top 48)) (by decide +kernel)) (fun _ _ _ _ _ => by exact (pg_name (i := 6) nd rfl (Or.inl rfl))) (fun _ _ _ _ _ => by exact pts_nil) (fun _ _ _ _ _ => by exact (pe_op op_sub (pe_callB (cr_sumK K rfl rfl) (by rfl) T.sum (by decide +kernel) (pa_cons (pv 6) pa_nil)) (pe_ix (ix_listK K rfl) (pv 6) (C8.pe_gc rfl T.END) (fun _ _ => rfl)))))
      (pss_one (ps_ret (pe_ix ix_list (C8.pe_c c_sought hr (by decide) rfl (pa_cons (pv 0) (pa_cons (pv 5) (pa_cons (C8.pe_gc rfl T.END) pa_nil)))) (pv 1) (fun _ _ => rfl)))))), ?_⟩
  obtain ⟨_, v, d, i, rfl, o, hc0, hi, hQ⟩ := h
  obtain ⟨t, p, q, us, ws, hc⟩ := hc0.opened
  have hv := hc.hv
  subst hv
  have hn : nst d ≤ 144 := CN.states_len o
  refine q_unp3 (ev_var rfl) (st_of hc.ht) fun H1 e1 => ?_
  have hc1 := hc.mono e1
  refine q_asgL (xs := (gainsOf d (gAw d)).map V.int) (by
      have e := el_lcL (K := K) (te := tOp (rI0 fun i j => .int (i - j)) (tCB (rSum K) (tCons (tVar 6) tNil)) (tOp (rIxL K) (tVar 6) (tC (.int 10)))) (t := tYes) (tl := tVar 4) (j := 6) (vs := [6]) (σ := [some (.ref t), some (.int i), some (.int (d.memory : Nat)), some (.ref p), some (.ref q), none, none])
        (fun _ => true) (fun i => .int (gAw d (CN.st d i) : Nat)) (ev_var rfl) (sq_of hc1.hq) (by rw [hc.wl]; omega) (fun _ => rfl) (fun i x H2 _ _ => et_yes) (fun j x H2 e2 hx _ => by
          have hj : j < nst d := by
            have := (List.getElem?_eq_some_iff.mp hx).1
            have := hc.wl
            omega
          obtain ⟨b, hb1, _, hb3⟩ := (hc1.mono e2).hw j hj
          rw [hx] at hb1
          have ex := Option.some.inj hb1
          subst ex
          have e3 := ev_op (H := H2) (ev_sumL (K := K) (ta := tVar 6) (σ := [some (.ref t), some (.int i), some (.int (d.memory : Nat)), some (.ref p), some (.ref q), none, some (.ref b)]) (ev_var rfl) hb3) (ev_cell (K := K) (j := 10) (ta := tVar 6) (tb := tC (.int 10)) (ev_var rfl) ev_c hb3 (by rw [wrow_len]; decide)) (rv_I0 (g := fun i j => V.int (i - j)))
          rw [wrow_sum o, wrow_get (by decide)] at e3
          have e4 : ((gAw d (CN.st d j) : Nat) : Int) = (tot d j : Nat) - (wt d j 10 : Nat) := by
            have : wt d j 10 ≤ tot d j := CN.fromTo_le o _ _
            show ((tot d j - wt d j 10 : Nat) : Int) = _
            omega
          rw [e4]
          exact e3)
      rw [rng_of hc.wl] at e
      exact e) fun r H2 hr e2 hx => ?_
  refine s_retP (evp_ixF (rs := CN.xsol d 10 (gAw d)) (EvP.imp (evp_callA (R := fun H1 H2 v => LF K H2 v (CN.xsol d 10 (gAw d))) (ea_cons (ev_var rfl) (ea_cons (ev_var rfl) (ea_cons ev_c ea_nil))) fun H3 e3 Q3 k3 E3 => ⟨rfl, _, _, d, gAw d, 10, rfl, o, hc0.mono ((e1.trans e2).trans e3), ⟨r, rfl, e3 _ _ hx⟩, fun s _ => by
    have := CN.from_le o s
    unfold gAw
    omega, fun p H4 hp e4 hx => k3 _ H4 e4 hx⟩) fun H3 H4 v _ _ ⟨_, _, h⟩ => h) (ev_var rfl) (by rw [CN.xsol_len]; exact hi)) fun v H3 e3 h => hQ v H3 ((e1.trans e2).trans e3) h
theorem ev_gain {K : PySem.W.Frag} {σ : L2.St} {H : Hp} {d : Desk} {t p q : Addr} {us ws : List V} {v : V} (hc : ChO H v d t p q us ws) {j a : Nat} {x : V} (ha : a < 11) (hx : ws[j]? = some x) {ta tb : TE} (h1 : Ev ta σ H x) (h2 : Ev tb σ H (.int (a : Int))) : Ev (tOp (rIxL K) ta tb) σ H (.int (wt d j a : Nat)) := by
  have hj : j < nst d := by
    have := (List.getElem?_eq_some_iff.mp hx).1
    have := hc.wl
    omega
  obtain ⟨b, hb1, _, hb3⟩ := hc.hw j hj
  rw [hx] at hb1
  have ex := Option.some.inj hb1
  subst ex
  rw [← wrow_get ha]
  exact ev_cell h1 h2 hb3 (by rw [wrow_len]; exact ha)
def gAct (d : Desk) (a : Nat) (s : List Nat) : Nat := fromTo d s a
theorem gAct_le {d : Desk} (o : CN.DeskOk d) (a : Nat) (s : List Nat) : gAct d a s ≤ 14400 := Nat.le_trans (CN.fromTo_le o s a) (CN.from_le o s)
def sp_visits (K : PySem.W.Frag) : Sp := fun vs H Q _ => vs.length = 3 ∧ ∃ (v : V) (d : Desk) (i a : Nat), vs = [v, .int i, .int a] ∧ CN.DeskOk d ∧ ChainV H v d ∧ i < nst d ∧ a < 10 ∧ RetFr K H ((CN.xsol d 10 (gAct d a)).getD i 0) Q
theorem sc_visits : FnScope ["chain", "place", "act", "memory", "things", "weights", "row"] ["chain", "place", "act"] (defScope (top 49)) := ⟨rfl, rfl, rfl, by decide +kernel, rfl, by decide +kernel, by decide +kernel⟩
theorem cal_visits {P : Program} {w : World} {K : PySem.W.Frag} {mg : Str → Option Value} {base : Heap} (g : Glo K mg "visits" (top 49)) (T : Txt K mg) (c_sought : Cal P w K mg base 5 "sought" (sp_sought K)) : Cal P w K mg base 6 "visits" (sp_visits K) := by
  refine cal_by g sc_visits (fun _ _ _ _ _ _ us hl => match us, hl with | [_, _, _], _ => rfl) (fun vs H Q E h => h.1) fun f cdv A outer s H vs Q E hr h => ?_
  have nd := sc_visits.nd
  refine ⟨_, (pss_cons (ps_asg (pv 0) (pg_tup rfl (pgs_cons (pg_name (i := 3) nd rfl (Or.inl rfl)) (pgs_cons (pg_name (i := 4) nd rfl (Or.inl rfl)) (pgs_cons (pg_name (i := 5) nd rfl (Or.inl rfl)) pgs_nil)))))
      (pss_one (ps_ret (pe_ix ix_list (C8.pe_c c_sought hr (by decide) rfl (pa_cons (pv 0) (pa_cons (pe_lc (own := [("row", 6)]) rfl nd (pi_list (pv 5)) (blkOk_by (own := [("row", 6)]) (N := ["chain", "place", "act", "memory", "things", "weights", "row"]) (sc := defScope (top 49)) (by decide +kernel)) (fun _ _ _ _ _ => by exact (pg_name (i := 6) nd rfl (Or.inl rfl))) (fun _ _ _ _ _ => by exact pts_nil) (fun _ _ _ _ _ => by exact (pe_ix (ix_listK K rfl) (pv 6) (pv 2) (fun _ _ => rfl)))) (pa_cons (C8.pe_gc rfl T.END) pa_nil)))) (pv 1) (fun _ _ => rfl))))), ?_⟩
  obtain ⟨_, v, d, i, a, rfl, o, hc0, hi, ha, hQ⟩ := h
  obtain ⟨t, p, q, us, ws, hc⟩ := hc0.opened
  have hv := hc.hv
  subst hv
  have hn : nst d ≤ 144 := CN.states_len o
  refine q_unp3 (ev_var rfl) (st_of hc.ht) fun H1 e1 => ?_
  have hc1 := hc.mono e1
  refine s_retP (evp_ixF (rs := CN.xsol d 10 (gAct d a)) (EvP.imp (evp_call (R := fun H1 H2 v => LF K H2 v (CN.xsol d 10 (gAct d a))) (eap_v (ev_var rfl) (eap_cons (U := fun _ H2 vs => ∃ r, vs = [.ref r, .int 10] ∧ H2 r = some (.lst ((gainsOf d (gAct d a)).map V.int))) (evp_evL (xs := (gainsOf d (gAct d a)).map V.int) (by
      have e := el_lcL (K := K) (te := tOp (rIxL K) (tVar 6) (tVar 2)) (t := tYes) (tl := tVar 5) (j := 6) (vs := [6]) (σ := [some (.ref t), some (.int i), some (.int a), some (.int (d.memory : Nat)), some (.ref p), some (.ref q), none])
        (fun _ => true) (fun i => .int (gAct d a (CN.st d i) : Nat)) (ev_var rfl) (sq_of hc1.hq) (by rw [hc.wl]; omega) (fun _ => rfl) (fun i x H2 _ _ => et_yes) (fun j x H2 e2 hx _ => ev_gain (hc1.mono e2) (by omega) hx (ev_var rfl) (ev_var rfl))
      rw [rng_of hc.wl] at e
      exact e)) fun v H2 H3 e2 e3 ⟨r, hv, _, hr⟩ H4 e4 Q4 k4 => (ea_cons ev_c ea_nil) H4 (Ex.refl H4) _ fun H5 e5 => k4 _ H5 e5 fun e6 => ⟨r, by rw [hv], (e4.trans e5) _ _ hr⟩))
    fun vs H2 H3 e2 e3 ⟨H0, r, e0, hvs, y, hr, hy⟩ H4 e4 Q4 k4 E4 => by
      subst hvs hr
      exact ⟨rfl, _, _, d, gAct d a, 10, rfl, o, hc0.mono (((e1.trans e2).trans e3).trans e4), ⟨y, rfl, e4 _ _ hy⟩, fun s _ => gAct_le o a s, fun p H5 hp e5 hx => k4 _ H5 e5 hx⟩) fun H3 H4 v _ _ h => h) (ev_var rfl) (by rw [CN.xsol_len]; exact hi)) fun v H3 e3 h => hQ v H3 (e1.trans e3) h
def sp_comes (K : PySem.W.Frag) : Sp := fun vs H Q _ => vs.length = 3 ∧ ∃ (v : V) (d : Desk) (i a : Nat), vs = [v, .int i, .int a] ∧ CN.DeskOk d ∧ ChainV H v d ∧ i < nst d ∧ a < 10 ∧ RetFr K H ((CN.xsol d a (gAct d a)).getD i 0) Q
theorem sc_comes : FnScope ["chain", "place", "act", "memory", "things", "weights", "row"] ["chain", "place", "act"] (defScope (top 50)) := ⟨rfl, rfl, rfl, by decide +kernel, rfl, by decide +kernel, by decide +kernel⟩
theorem cal_comes {P : Program} {w : World} {K : PySem.W.Frag} {mg : Str → Option Value} {base : Heap} (g : Glo K mg "comes" (top 50)) (T : Txt K mg) (c_sought : Cal P w K mg base 5 "sought" (sp_sought K)) : Cal P w K mg base 6 "comes" (sp_comes K) := by
  refine cal_by g sc_comes (fun _ _ _ _ _ _ us hl => match us, hl with | [_, _, _], _ => rfl) (fun vs H Q E h => h.1) fun f cdv A outer s H vs Q E hr h => ?_
  have nd := sc_comes.nd
  refine ⟨_, (pss_cons (ps_asg (pv 0) (pg_tup rfl (pgs_cons (pg_name (i := 3) nd rfl (Or.inl rfl)) (pgs_cons (pg_name (i := 4) nd rfl (Or.inl rfl)) (pgs_cons (pg_name (i := 5) nd rfl (Or.inl rfl)) pgs_nil)))))
      (pss_one (ps_ret (pe_ix ix_list (C8.pe_c c_sought hr (by decide) rfl (pa_cons (pv 0) (pa_cons (pe_lc (own := [("row", 6)]) rfl nd (pi_list (pv 5)) (blkOk_by (own := [("row", 6)]) (N := ["chain", "place", "act", "memory", "things", "weights", "row"]) (sc := defScope (top 50)) (by decide +kernel)) (fun _ _ _ _ _ => by exact (pg_name (i := 6) nd rfl (Or.inl rfl))) (fun _ _ _ _ _ => by exact pts_nil) (fun _ _ _ _ _ => by exact (pe_ix (ix_listK K rfl) (pv 6) (pv 2) (fun _ _ => rfl)))) (pa_cons (pv 2) pa_nil)))) (pv 1) (fun _ _ => rfl))))), ?_⟩
  obtain ⟨_, v, d, i, a, rfl, o, hc0, hi, ha, hQ⟩ := h
  obtain ⟨t, p, q, us, ws, hc⟩ := hc0.opened
  have hv := hc.hv
  subst hv
  have hn : nst d ≤ 144 := CN.states_len o
  refine q_unp3 (ev_var rfl) (st_of hc.ht) fun H1 e1 => ?_
  have hc1 := hc.mono e1
  refine s_retP (evp_ixF (rs := CN.xsol d a (gAct d a)) (EvP.imp (evp_call (R := fun H1 H2 v => LF K H2 v (CN.xsol d a (gAct d a))) (eap_v (ev_var rfl) (eap_cons (U := fun _ H2 vs => ∃ r, vs = [.ref r, .int a] ∧ H2 r = some (.lst ((gainsOf d (gAct d a)).map V.int))) (evp_evL (xs := (gainsOf d (gAct d a)).map V.int) (by
      have e := el_lcL (K := K) (te := tOp (rIxL K) (tVar 6) (tVar 2)) (t := tYes) (tl := tVar 5) (j := 6) (vs := [6]) (σ := [some (.ref t), some (.int i), some (.int a), some (.int (d.memory : Nat)), some (.ref p), some (.ref q), none])
        (fun _ => true) (fun i => .int (gAct d a (CN.st d i) : Nat)) (ev_var rfl) (sq_of hc1.hq) (by rw [hc.wl]; omega) (fun _ => rfl) (fun i x H2 _ _ => et_yes) (fun j x H2 e2 hx _ => ev_gain (hc1.mono e2) (by omega) hx (ev_var rfl) (ev_var rfl))
      rw [rng_of hc.wl] at e
      exact e)) fun v H2 H3 e2 e3 ⟨r, hv, _, hr⟩ H4 e4 Q4 k4 => (ea_cons (ev_var (i := 2) rfl) ea_nil) H4 (Ex.refl H4) _ fun H5 e5 => k4 _ H5 e5 fun e6 => ⟨r, by rw [hv], (e4.trans e5) _ _ hr⟩))
    fun vs H2 H3 e2 e3 ⟨H0, r, e0, hvs, y, hr, hy⟩ H4 e4 Q4 k4 E4 => by
      subst hvs hr
      exact ⟨rfl, _, _, d, gAct d a, a, rfl, o, hc0.mono (((e1.trans e2).trans e3).trans e4), ⟨y, rfl, e4 _ _ hy⟩, fun s _ => gAct_le o a s, fun p H5 hp e5 hx => k4 _ H5 e5 hx⟩) fun H3 H4 v _ _ h => h) (ev_var rfl) (by rw [CN.xsol_len]; exact hi)) fun v H3 e3 h => hQ v H3 (e1.trans e3) h
end CW
/-! surest, within, beginning, whole. -/
namespace CW
open PySem PySem.Spec PyProof.Rows L2 Evl
open Km522 (n2i mind Desk Case END states onTo from_ fromTo)
open CN (Stp thg tab trow stepsOf nst wt tot nxt)

/-! ### sizes of fractions -/
theorem sz_mk {u l : Int} {m : Nat} (hl : 0 < l) (hu : u.natAbs < 2 ^ m) (hl2 : l.natAbs < 2 ^ m) : Sz (mkRat u l.toNat) m := by
  have hg : 0 < Int.gcd u l := Int.gcd_pos_of_ne_zero_right _ (by omega)
  constructor
  · rw [low_num hl, Int.natAbs_ediv_of_dvd (Int.gcd_dvd_left ..)]
    refine Nat.lt_of_le_of_lt (Nat.div_le_self _ _) hu
  · have e := low_den (u := u) hl
    have e2 : l / ((Int.gcd u l : Nat) : Int) ≤ l := Int.ediv_le_self _ (by omega)
    omega
theorem Sz.up {r : Rat} {m n : Nat} (h : Sz r m) (hn : m ≤ n) : Sz r n := ⟨Nat.lt_of_lt_of_le h.1 (Nat.pow_le_pow_right (by decide) hn), Nat.lt_of_lt_of_le h.2 (Nat.pow_le_pow_right (by decide) hn)⟩
theorem Sz.mul {a b : Rat} {m k : Nat} (h1 : Sz a m) (h2 : Sz b k) : Sz (a * b) (m + k) := by
  rw [← mul_eq]
  refine sz_mk (Int.mul_pos (den_pos' a) (den_pos' b)) (mul_nat h1.1 h2.1) (mul_nat (den_sz h1) (den_sz h2))
theorem chq_sz {d : Desk} (o : CN.DeskOk d) {i a : Nat} (hi : i < nst d) : Sz (chq d i a) 14 := by
  have h1 := wt_le o i a
  have h2 := tot_le' o i
  have h3 := CN.tot_pos o hi
  have h := sz_mk (u := (wt d i a : Nat)) (l := (tot d i : Nat)) (m := 14) (by omega) (by rw [Int.natAbs_natCast]; omega) (by rw [Int.natAbs_natCast]; omega)
  rw [Int.toNat_natCast] at h
  exact h
theorem chq_nn (d : Desk) (i a : Nat) : 0 ≤ chq d i a := by
  unfold chq
  rw [CN.mkRat_nat]
  exact CN.div_nn Rat.natCast_nonneg Rat.natCast_nonneg
theorem xsol_sz {d : Desk} (o : CN.DeskOk d) {last : Nat} {g : List Nat → Nat} (hg : ∀ s ∈ states d, g s ≤ 14400) {i : Nat} (hi : i < nst d) : Sz ((CN.xsol d last g).getD i 0) 13500 := by
  have ok := CN.eqRows_ok (last := last) (g := g) o hg
  unfold CN.xsol CN.solvedR
  rw [CN.range_map_getD hi]
  exact sz_mk (ok.diag i hi) (sm_nat (ok.small i (nst d) hi (Nat.le_refl _))) (sm_nat (ok.small i i hi (by omega)))

/-! ### calls that give fractions -/
section
variable {K : PySem.W.Frag} {σ : L2.St} {H : Hp} {ta tb tc : TE} {E : XK} {v x : V} {a b : Rat} {m k : Nat} {d : Desk} {i c : Nat}
theorem evp_times (hv : FrV K H v a) (ha : Ev ta σ H v) (hb : EvP tb σ H (fun _ H2 x => FrV K H2 x b)) (h0 : 0 ≤ a) (h1 : 0 ≤ b) (s1 : Sz a m) (s2 : Sz b k) (m0 : 0 < m) (k0 : 0 < k) (mk : m + k + 1 ≤ 13500) :
    EvP (tCall (sp_times K) [] E (tCons ta (tCons tb tNil))) σ H (fun _ H2 x => FrV K H2 x (a * b)) :=
  evp_call (eap_v ha (eap_one (U := fun _ H2 vs => ∃ x, vs = [x] ∧ FrV K H2 x b) hb fun v H4 H5 e4 e5 h => ⟨v, rfl, h⟩)) fun vs H4 H5 e4 e5 ⟨H6, r, e6, hvs, y, hr, hy⟩ H7 e7 Q7 k7 E7 => by
    subst hvs hr
    exact ⟨rfl, v, y, a, b, m, k, rfl, hv.mono ((e4.trans e5).trans e7), hy.mono e7, h0, h1, s1, s2, m0, k0, mk, fun p H8 hp e8 hx => k7 _ H8 e8 ⟨p, rfl, st_of hx⟩⟩
theorem evp_plus (hv : FrV K H v a) (ha : Ev ta σ H v) (hb : EvP tb σ H (fun _ H2 x => FrV K H2 x b)) (h0 : 0 ≤ a) (h1 : 0 ≤ b) (s1 : Sz a m) (s2 : Sz b k) (m0 : 0 < m) (k0 : 0 < k) (mk : m + k + 1 ≤ 13500) :
    EvP (tCall (sp_plus K) [] E (tCons ta (tCons tb tNil))) σ H (fun _ H2 x => FrV K H2 x (a + b)) :=
  evp_call (eap_v ha (eap_one (U := fun _ H2 vs => ∃ x, vs = [x] ∧ FrV K H2 x b) hb fun v H4 H5 e4 e5 h => ⟨v, rfl, h⟩)) fun vs H4 H5 e4 e5 ⟨H6, r, e6, hvs, y, hr, hy⟩ H7 e7 Q7 k7 E7 => by
    subst hvs hr
    exact ⟨rfl, v, y, a, b, m, k, rfl, hv.mono ((e4.trans e5).trans e7), hy.mono e7, h0, h1, s1, s2, m0, k0, mk, fun p H8 hp e8 hx => k7 _ H8 e8 ⟨p, rfl, st_of hx⟩⟩
theorem evp_chance (o : CN.DeskOk d) (hc : ChainV H v d) (hi : i < nst d) (hcc : c < 11) (e1 : Ev ta σ H v) (e2 : Ev tb σ H (.int (i : Int))) (e3 : Ev tc σ H (.int (c : Int))) :
    EvP (tCall (sp_chance K) [] E (tCons ta (tCons tb (tCons tc tNil)))) σ H (fun _ H2 x => FrV K H2 x (chq d i c)) :=
  EvP.imp (evp_callA (R := fun _ H2 x => FrV K H2 x (chq d i c)) (ea_cons e1 (ea_cons e2 (ea_cons e3 ea_nil))) fun H3 e3 Q3 k3 E3 => ⟨rfl, v, d, i, c, rfl, o, hc.mono e3, hi, hcc, fun p H4 hp e4 hx => k3 _ H4 e4 ⟨p, rfl, st_of hx⟩⟩) fun _ _ _ _ _ ⟨_, _, h⟩ => h
theorem ev_place_in (o : CN.DeskOk d) (hc : ChainV H v d) {s : List Nat} (e1 : Ev ta σ H v) (e2 : EvP tb σ H (fun _ H2 x => LI H2 x (n2i s))) : Ev (tCall (sp_place_in K) [] E (tCons ta (tCons tb tNil))) σ H (plV (placeOf (states d) (mind d.memory s))) := fun H1 e Q q =>
  evp_call (R := fun _ _ x => x = plV (placeOf (states d) (mind d.memory s))) (eap_v e1 (eap_one (U := fun _ H2 vs => ∃ x, vs = [x] ∧ LI H2 x (n2i s)) e2 fun v H4 H5 e4 e5 h => ⟨v, rfl, h⟩))
    (fun vs H4 H5 e4 e5 ⟨H6, r, e6, hvs, y, hr, hy⟩ H7 e7 Q7 k7 E7 => by
      subst hvs hr
      exact ⟨rfl, v, y, d, s, rfl, o, hc.mono ((e4.trans e5).trans e7), hy.mono e7, fun H8 e8 => k7 _ H8 e8 rfl⟩) H1 e Q fun x H2 e2 hx => by
      subst hx
      exact q H2 e2
end
/-! ### a fraction that is 0 -/
theorem rat_zero {r : Rat} : r.num = 0 ∧ (r.den : Int) = 1 ↔ r = 0 := by
  constructor
  · rintro ⟨h, _⟩
    exact Rat.num_eq_zero.mp h
  · rintro rfl
    exact ⟨rfl, rfl⟩
theorem eqv_fr (r : Rat) : PyData.eqv (.tuple [.int r.num, .int r.den]) (.tuple [.int 0, .int 1]) = decide (r = 0) := by
  have e : PyData.eqv (.tuple [.int r.num, .int r.den]) (.tuple [.int 0, .int 1]) = ((r.num == 0) && (((r.den : Int) == 1) && true)) := by simp only [PyData.eqv, PyData.eqvAll]
  rw [e]
  by_cases h : r = 0
  · subst h
    rfl
  · rw [decide_eq_false h]
    have : r.num ≠ 0 := fun z => h (Rat.num_eq_zero.mp z)
    rw [beq_eq_false_iff_ne.mpr this]
    rfl
theorem fr_shaped (n d : Int) : SeqAt.shaped (.tuple [.int n, .int d]) = true := by
  show (PyData.canLay0 _ && decide (PyData.depth _ ≤ 64)) = true
  rw [Bool.and_eq_true]
  exact ⟨by simp [PyData.canLay0, PyData.canLayAll0], decide_eq_true (by simp [PyData.depth, PyData.depthAll])⟩
theorem rv_neF {K : PySem.W.Frag} {H : Hp} {v : V} {r : Rat} {a : Addr} (h : FrV K H v r) (q : ∀ H, SqT K H a [.int 0, .int 1]) : RV (rNeD K) v (.ref a) H (.bl (!decide (r = 0))) := fun H1 e Q k => by
  obtain ⟨b, rfl, hb⟩ := h
  refine ⟨.tuple [.int r.num, .int r.den], .tuple [.int 0, .int 1], .tup (ex_t e hb) (.cons (.int _) (.cons (.int _) .nil)), .tup (q H1) (.cons (.int _) (.cons (.int _) .nil)), fr_shaped _ _, fr_shaped _ _, ?_⟩
  rw [eqv_fr]
  exact k H1 (Ex.refl H1)
theorem rv_eqF {K : PySem.W.Frag} {H : Hp} {v : V} {r : Rat} {a : Addr} (h : FrV K H v r) (q : ∀ H, SqT K H a [.int 0, .int 1]) : RV (rEqD K) v (.ref a) H (.bl (decide (r = 0))) := fun H1 e Q k => by
  obtain ⟨b, rfl, hb⟩ := h
  refine ⟨.tuple [.int r.num, .int r.den], .tuple [.int 0, .int 1], .tup (ex_t e hb) (.cons (.int _) (.cons (.int _) .nil)), .tup (q H1) (.cons (.int _) (.cons (.int _) .nil)), fr_shaped _ _, fr_shaped _ _, ?_⟩
  rw [eqv_fr]
  exact k H1 (Ex.refl H1)

/-! ### surest -/
def cq (d : Desk) (i a : Nat) : Rat := (CN.xsol d a (gAct d a)).getD i 0
def surB (d : Desk) (i k : Nat) : Nat := (List.range k).foldl (fun (b a : Nat) => if cq d i b < cq d i a then a else b) 0
theorem surB_succ (d : Desk) (i k : Nat) : surB d i (k + 1) = if cq d i (surB d i k) < cq d i k then k else surB d i k := by
  unfold surB
  rw [List.range_succ, List.foldl_append]
  rfl
theorem surB_one (d : Desk) (i : Nat) : surB d i 1 = 0 := by
  rw [surB_succ]
  show (if cq d i 0 < cq d i 0 then 0 else 0) = 0
  split <;> rfl
theorem surB_lt (d : Desk) (i : Nat) : ∀ k, k ≤ 10 → surB d i k < 10
  | 0, _ => by show 0 < 10; decide
  | k + 1, h => by
    rw [surB_succ]
    split
    · omega
    · exact surB_lt d i k (by omega)
def sp_surest (K : PySem.W.Frag) : Sp := fun vs H Q _ => vs.length = 2 ∧ ∃ (v : V) (d : Desk) (i : Nat), vs = [v, .int i] ∧ CN.DeskOk d ∧ ChainV H v d ∧ i < nst d ∧
  ∀ p z H', H p = none → Ex H H' → H' p = some (.tup [.int (surB d i 10 : Nat), z]) → FrV K H' z (cq d i (surB d i 10)) → Q (.ref p) H'
theorem evp_comes {K : PySem.W.Frag} {σ : L2.St} {H : Hp} {ta tb tc : TE} {E : XK} {v : V} {d : Desk} {i c : Nat} (o : CN.DeskOk d) (hc : ChainV H v d) (hi : i < nst d) (hcc : c < 10) (e1 : Ev ta σ H v) (e2 : Ev tb σ H (.int (i : Int))) (e3 : Ev tc σ H (.int (c : Int))) :
    EvP (tCall (sp_comes K) [] E (tCons ta (tCons tb (tCons tc tNil)))) σ H (fun _ H2 x => FrV K H2 x (cq d i c)) :=
  EvP.imp (evp_callA (R := fun _ H2 x => FrV K H2 x (cq d i c)) (ea_cons e1 (ea_cons e2 (ea_cons e3 ea_nil))) fun H3 e3 Q3 k3 E3 => ⟨rfl, v, d, i, c, rfl, o, hc.mono e3, hi, hcc, fun x H4 e4 hx => k3 _ H4 e4 hx⟩) fun _ _ _ _ _ ⟨_, _, h⟩ => h
theorem sc_surest : FnScope ["chain", "place", "best", "most", "act", "one"] ["chain", "place"] (defScope (top 51)) := ⟨rfl, rfl, rfl, by decide +kernel, rfl, by decide +kernel, by decide +kernel⟩
theorem cal_surest {P : Program} {w : World} {K : PySem.W.Frag} {mg : Str → Option Value} {base : Heap} (g : Glo K mg "surest" (top 51)) (T : Txt K mg) (c_comes : Cal P w K mg base 6 "comes" (sp_comes K)) (c_is_above : Cal P w K mg base 1 "is_above" (sp_is_above K)) : Cal P w K mg base 7 "surest" (sp_surest K) := by
  refine cal_by g sc_surest (fun _ _ _ _ _ _ us hl => match us, hl with | [_, _], _ => rfl) (fun vs H Q E h => h.1) fun f cdv A outer s H vs Q E hr h => ?_
  have nd := sc_surest.nd
  refine ⟨_, (pss_cons (ps_set (i := 2) nd rfl (Or.inl rfl) pe_int)
      (pss_cons (ps_set (i := 3) nd rfl (Or.inl rfl) (C8.pe_c c_comes hr (by decide) rfl (pa_cons (pv 0) (pa_cons (pv 1) (pa_cons pe_int pa_nil)))))
      (pss_cons (ps_for PassesOwn.never rfl (pi_range2 rfl T.range (pa_cons pe_int (pa_cons (C8.pe_gc rfl T.ACTS) pa_nil))) (pg_name (i := 4) nd rfl (Or.inl rfl)) (pss_cons (ps_set (i := 5) nd rfl (Or.inl rfl) (C8.pe_c c_comes hr (by decide) rfl (pa_cons (pv 0) (pa_cons (pv 1) (pa_cons (pv 4) pa_nil)))))
      (pss_one (ps_if (pt_val (C8.pe_c c_is_above hr (by decide) rfl (pa_cons (pv 5) (pa_cons (pv 3) pa_nil)))) (pss_cons (ps_set (i := 2) nd rfl (Or.inl rfl) (pv 4))
      (pss_one (ps_set (i := 3) nd rfl (Or.inl rfl) (pv 5)))) pss_nil))))
      (pss_one (ps_ret (pe_tup (pa_cons (pv 2) (pa_cons (pv 3) pa_nil)))))))), ?_⟩
  obtain ⟨_, v, d, i, rfl, o, hc, hi, hQ⟩ := h
  have csz : ∀ a, Sz (cq d i a) 13500 := fun a => xsol_sz o (fun s _ => gAct_le o a s) hi
  refine q_asg ev_c fun H1 e1 => ?_
  refine q_asgP (evp_comes (c := 0) o (hc.mono e1) hi (by decide) (ev_var rfl) (ev_var rfl) ev_c) fun z H2 e2 hz => ?_
  refine q_forR2 (lo := 1) (n := 10) (ea_cons ev_c (ea_cons ev_c ea_nil)) (by decide) (fun k σ H' => ∃ (y : V) (z1 z2 : Option V), σ = [some v, some (.int i), some (.int (surB d i (k + 1) : Nat)), some y, z1, z2] ∧ Ex H H' ∧ FrV K H' y (cq d i (surB d i (k + 1))))
    (fun H3 e3 => ⟨z, none, none, by rw [surB_one]; rfl, (e1.trans e2).trans e3, by rw [surB_one]; exact hz.mono e3⟩) ?_ ?_
  · rintro k σ H' hk ⟨y, z1, z2, rfl, e, hy⟩
    have hk' : k + 1 < 10 := by omega
    have ek : (1 : Int) + (k : Int) = ((k + 1 : Nat) : Int) := by omega
    rw [ek]
    refine q_asgP (evp_comes (c := k + 1) o (hc.mono e) hi hk' (ev_var rfl) (ev_var rfl) (ev_var rfl)) fun x H3 e3 hx => ?_
    refine s_when (et_B (ev_callV (z := .bl (decide (cq d i (surB d i (k + 1)) < cq d i (k + 1)))) (ea_cons (ev_var rfl) (ea_cons (ev_var rfl) ea_nil)) fun H4 e4 Q4 k4 E4 => ⟨rfl, x, y, _, _, 13500, 13500, rfl, hx.mono e4, (hy.mono e3).mono e4, csz _, csz _, by decide, by decide, Nat.le_refl _, Nat.le_refl _, fun H5 e5 => k4 H5 e5⟩)) (fun hb H4 e4 => ?_) (fun hb H4 e4 => ?_)
    · have hlt := of_decide_eq_true hb
      refine q_asg (ev_var rfl) fun H5 e5 => s_asg (ev_var rfl) fun H6 e6 => ⟨x, some (.int ((k + 1 : Nat) : Int)), some x, ?_, (((e.trans e3).trans e4).trans e5).trans e6, ?_⟩
      · rw [surB_succ d i (k + 1), if_pos hlt]
        rfl
      · rw [surB_succ d i (k + 1), if_pos hlt]
        exact ((hx.mono e4).mono e5).mono e6
    · have hlt := of_decide_eq_false hb
      refine ⟨y, some (.int ((k + 1 : Nat) : Int)), some x, ?_, (e.trans e3).trans e4, ?_⟩
      · rw [surB_succ d i (k + 1), if_neg hlt]
        rfl
      · rw [surB_succ d i (k + 1), if_neg hlt]
        exact (hy.mono e3).mono e4
  · rintro σ H' ⟨y, z1, z2, rfl, e, hy⟩
    exact s_retU (eu_tup (ea_cons (ev_var rfl) (ea_cons (ev_var rfl) ea_nil)) (by show 2 ≤ 100000; decide)) fun p H3 hp e3 hx => hQ p y H3 (fresh_back e hp) (e.trans e3) hx (hy.mono e3)

/-! ### one_more, within -/
def omK (d : Desk) (i : Nat) (ah : List Rat) (k : Nat) : Rat := (List.range k).foldl (fun acc a => if chq d i a ≠ 0 then acc + chq d i a * ah.getD (nxt d i a) 0 else acc) (chq d i 10)
theorem omK_succ (d : Desk) (i : Nat) (ah : List Rat) (k : Nat) : omK d i ah (k + 1) = if chq d i k ≠ 0 then omK d i ah k + chq d i k * ah.getD (nxt d i k) 0 else omK d i ah k := by
  unfold omK
  rw [List.range_succ, List.foldl_append]
  rfl
def AhOk (d : Desk) (ah : List Rat) : Prop := ah.length = nst d ∧ (∀ j, j < nst d → 0 ≤ ah.getD j 0 ∧ Sz (ah.getD j 0) 2000) ∧ ∀ i k, i < nst d → k ≤ 10 → 0 ≤ omK d i ah k ∧ Sz (omK d i ah k) 2000
theorem chq_ne {d : Desk} {i a : Nat} (h : chq d i a ≠ 0) : 0 < wt d i a := by
  by_cases c : wt d i a = 0
  · refine absurd ?_ h
    unfold chq
    rw [c, CN.mkRat_nat]
    show (0 : Rat) / _ = 0
    grind
  · omega
def sp_one_more (K : PySem.W.Frag) : Sp := fun vs H Q _ => vs.length = 3 ∧ ∃ (v x : V) (d : Desk) (i : Nat) (ah : List Rat), vs = [v, .int i, x] ∧ CN.DeskOk d ∧ ChainV H v d ∧ i < nst d ∧ LF K H x ah ∧ AhOk d ah ∧ RetFr K H (omK d i ah 10) Q
theorem sc_one_more : FnScope ["chain", "place", "ahead", "found", "act", "part"] ["chain", "place", "ahead"] (defScope (top 52)) := ⟨rfl, rfl, rfl, by decide +kernel, rfl, by decide +kernel, by decide +kernel⟩
theorem cal_one_more {P : Program} {w : World} {K : PySem.W.Frag} {mg : Str → Option Value} {base : Heap} (g : Glo K mg "one_more" (top 52)) (T : Txt K mg) (c_chance : Cal P w K mg base 3 "chance" (sp_chance K)) (c_place_behind : Cal P w K mg base 2 "place_behind" (sp_place_behind K)) (c_plus : Cal P w K mg base 3 "plus" (sp_plus K)) (c_times : Cal P w K mg base 3 "times" (sp_times K)) : Cal P w K mg base 4 "one_more" (sp_one_more K) := by
  refine cal_by g sc_one_more (fun _ _ _ _ _ _ us hl => match us, hl with | [_, _, _], _ => rfl) (fun vs H Q E h => h.1) fun f cdv A outer s H vs Q E hr h => ?_
  have nd := sc_one_more.nd
  obtain ⟨aNOTHING, hNOTHING, qNOTHING⟩ := T.NOTHING
  refine ⟨_, (pss_cons (ps_set (i := 3) nd rfl (Or.inl rfl) (C8.pe_c c_chance hr (by decide) rfl (pa_cons (pv 0) (pa_cons (pv 1) (pa_cons (C8.pe_gc rfl T.END) pa_nil)))))
      (pss_cons (ps_for PassesOwn.never rfl (pi_range1 rfl T.range (pa_cons (C8.pe_gc rfl T.ACTS) pa_nil)) (pg_name (i := 4) nd rfl (Or.inl rfl)) (pss_cons (ps_set (i := 5) nd rfl (Or.inl rfl) (C8.pe_c c_chance hr (by decide) rfl (pa_cons (pv 0) (pa_cons (pv 1) (pa_cons (pv 4) pa_nil)))))
      (pss_one (ps_if (pt_cmpR (op_neD hr.units) (pv 5) (C8.pe_gc rfl hNOTHING) (nomark _)) (pss_one (ps_set (i := 3) nd rfl (Or.inl rfl) (C8.pe_c c_plus hr (by decide) rfl (pa_cons (pv 3) (pa_cons (C8.pe_c c_times hr (by decide) rfl (pa_cons (pv 5) (pa_cons (pe_ix ix_list (pv 2) (C8.pe_c c_place_behind hr (by decide) rfl (pa_cons (pv 0) (pa_cons (pv 1) (pa_cons (pv 4) pa_nil)))) (fun _ _ => rfl)) pa_nil))) pa_nil))))) pss_nil))))
      (pss_one (ps_ret (pv 3))))), ?_⟩
  obtain ⟨_, v, x, d, i, ah, rfl, o, hc, hi, hx, ⟨al, as, os⟩, hQ⟩ := h
  refine q_asgP (evp_chance (c := 10) o hc hi (by decide) (ev_var rfl) (ev_var rfl) ev_c) fun z H1 e1 hz => ?_
  refine q_forR1 (n := 10) (ea_cons ev_c ea_nil) (by decide) (fun k σ H' => ∃ (y : V) (z1 z2 : Option V), σ = [some v, some (.int i), some x, some y, z1, z2] ∧ Ex H H' ∧ FrV K H' y (omK d i ah k))
    (fun H3 e3 => ⟨z, none, none, rfl, e1.trans e3, hz.mono e3⟩) ?_ ?_
  · rintro k σ H' hk ⟨y, z1, z2, rfl, e, hy⟩
    have hk' : k < 10 := by omega
    refine q_asgP (evp_chance (c := k) o (hc.mono e) hi (by omega) (ev_var rfl) (ev_var rfl) (ev_var rfl)) fun p H3 e3 hp => ?_
    refine s_when (et_test (ev_op (ev_var rfl) ev_c (rv_neF hp qNOTHING))) (fun hb H4 e4 => ?_) (fun hb H4 e4 => ?_)
    · have hne : chq d i k ≠ 0 := fun q => by
        rw [decide_eq_true q] at hb
        cases hb
      have hw := chq_ne hne
      have nl := CN.nxt_lt o hk' hw
      have ee := (e.trans e3).trans e4
      refine s_asgP (evp_plus (a := omK d i ah k) (b := chq d i k * ah.getD (nxt d i k) 0) (m := 2000) (k := 14 + 2000) ((hy.mono e3).mono e4) (ev_var rfl)
        (evp_times (a := chq d i k) (b := ah.getD (nxt d i k) 0) (m := 14) (k := 2000) (hp.mono e4) (ev_var rfl)
          (evp_ixF (rs := ah) (EvP.imp (evp_ev (ev_var rfl)) fun H5 H6 u e5 e6 hu => by subst hu; exact LF.mono ((ee.trans e5).trans e6) hx)
            (ev_callV (z := .int (nxt d i k : Nat)) (ea_cons (ev_var rfl) (ea_cons (ev_var rfl) (ea_cons (ev_var rfl) ea_nil))) fun H6 e6 Q6 k6 E6 => ⟨rfl, _, d, i, k, rfl, o, hc.mono (ee.trans e6), hi, fun H7 e7 => by
              rw [place_next o hk' hw]
              exact k6 H7 e7⟩) (by rw [al]; exact nl))
          (chq_nn d i k) (as _ nl).1 (chq_sz o hi) (as _ nl).2 (by decide) (by decide) (by decide))
        (os i k hi (by omega)).1 (Rat.mul_nonneg (chq_nn d i k) (as _ nl).1) (os i k hi (by omega)).2 ((chq_sz o hi).mul (as _ nl).2) (by decide) (by decide) (by decide)) fun u H5 e5 hu => ⟨u, some (.int (k : Int)), some p, rfl, ee.trans e5, ?_⟩
      rw [omK_succ, if_pos hne]
      exact hu
    · have hz0 : ¬ chq d i k ≠ 0 := fun q => by
        rw [decide_eq_false q] at hb
        cases hb
      refine ⟨y, some (.int (k : Int)), some p, rfl, (e.trans e3).trans e4, ?_⟩
      rw [omK_succ, if_neg hz0]
      exact (hy.mono e3).mono e4
  · rintro σ H' ⟨y, z1, z2, rfl, e, hy⟩
    exact s_ret (ev_var rfl) fun H3 e3 => hQ y H3 (e.trans e3) (hy.mono e3)
def wiL (d : Desk) : Nat → List Rat
  | 0 => (List.range (nst d)).map fun i => chq d i 10
  | k + 1 => (List.range (nst d)).map fun i => omK d i (wiL d k) 10
theorem wiL_len (d : Desk) : ∀ k, (wiL d k).length = nst d
  | 0 => by
    unfold wiL
    rw [List.length_map, List.length_range]
  | k + 1 => by
    unfold wiL
    rw [List.length_map, List.length_range]
def sp_within (K : PySem.W.Frag) : Sp := fun vs H Q _ => vs.length = 3 ∧ ∃ (v : V) (d : Desk) (i k : Nat), vs = [v, .int i, .int k] ∧ CN.DeskOk d ∧ ChainV H v d ∧ i < nst d ∧ k ≤ 6 ∧ (∀ j, j < 6 → AhOk d (wiL d j)) ∧ RetFr K H ((wiL d k).getD i 0) Q
theorem lf_of {K : PySem.W.Frag} {H : Hp} {p : Addr} {ws : List V} {n : Nat} {f : Nat → Rat} (h : H p = some (.lst ws)) (hl : ws.length = n) (hr : ∀ i w, ws[i]? = some w → FrV K H w (f i)) : LF K H (.ref p) ((List.range n).map f) :=
  ⟨p, ws, rfl, h, by rw [List.length_map, List.length_range, hl], fun i u r hu hr' => by
    obtain ⟨_, e⟩ := range_get hr'
    rw [e]
    exact hr i u hu⟩
theorem sc_within : FnScope ["chain", "place", "most", "memory", "things", "weights", "found", "again", "one"] ["chain", "place", "most"] (defScope (top 53)) := ⟨rfl, rfl, rfl, by decide +kernel, rfl, by decide +kernel, by decide +kernel⟩
theorem cal_within {P : Program} {w : World} {K : PySem.W.Frag} {mg : Str → Option Value} {base : Heap} (g : Glo K mg "within" (top 53)) (T : Txt K mg) (c_chance : Cal P w K mg base 3 "chance" (sp_chance K)) (c_one_more : Cal P w K mg base 4 "one_more" (sp_one_more K)) : Cal P w K mg base 5 "within" (sp_within K) := by
  refine cal_by g sc_within (fun _ _ _ _ _ _ us hl => match us, hl with | [_, _, _], _ => rfl) (fun vs H Q E h => h.1) fun f cdv A outer s H vs Q E hr h => ?_
  have nd := sc_within.nd
  refine ⟨_, (pss_cons (ps_asg (pv 0) (pg_tup rfl (pgs_cons (pg_name (i := 3) nd rfl (Or.inl rfl)) (pgs_cons (pg_name (i := 4) nd rfl (Or.inl rfl)) (pgs_cons (pg_name (i := 5) nd rfl (Or.inl rfl)) pgs_nil)))))
      (pss_cons (ps_set (i := 6) nd rfl (Or.inr rfl) (pe_lc (own := [("one", 8)]) rfl nd (pi_range1 rfl T.range (pa_cons (pe_callB call_len_seq (by rfl) T.len PySem.boot_len (pa_cons (pv 4) pa_nil)) pa_nil)) (blkOk_by (own := [("one", 8)]) (N := ["chain", "place", "most", "memory", "things", "weights", "found", "again", "one"]) (sc := defScope (top 53)) (by decide +kernel)) (fun _ _ _ _ _ => by exact (pg_name (i := 8) nd rfl (Or.inl rfl))) (fun _ _ _ _ _ => by exact pts_nil) (fun _ _ _ _ _ => by exact (C8.pe_c c_chance hr (by decide) rfl (pa_cons (pv 0) (pa_cons (pv 8) (pa_cons (C8.pe_gc rfl T.END) pa_nil)))))))
      (pss_cons (ps_for PassesOwn.never rfl (pi_range1 rfl T.range (pa_cons (pv 2) pa_nil)) (pg_name (i := 7) nd rfl (Or.inl rfl)) (pss_one (ps_set (i := 6) nd rfl (Or.inr rfl) (pe_lc (own := [("one", 8)]) rfl nd (pi_range1 rfl T.range (pa_cons (pe_callB call_len_seq (by rfl) T.len PySem.boot_len (pa_cons (pv 4) pa_nil)) pa_nil)) (blkOk_by (own := [("one", 8)]) (N := ["chain", "place", "most", "memory", "things", "weights", "found", "again", "one"]) (sc := defScope (top 53)) (by decide +kernel)) (fun _ _ _ _ _ => by exact (pg_name (i := 8) nd rfl (Or.inl rfl))) (fun _ _ _ _ _ => by exact pts_nil) (fun _ _ _ _ _ => by exact (C8.pe_c c_one_more hr (by decide) rfl (pa_cons (pv 0) (pa_cons (pv 8) (pa_cons (pv 6) pa_nil)))))))))
      (pss_one (ps_ret (pe_ix ix_list (pv 6) (pv 1) (fun _ _ => rfl))))))), ?_⟩
  obtain ⟨_, v, d, i, k, rfl, o, hc0, hi, hk, hah, hQ⟩ := h
  obtain ⟨t, p, q, us, ws, hc⟩ := hc0.opened
  have hv := hc.hv
  subst hv
  have hn : nst d ≤ 144 := CN.states_len o
  refine q_unp3 (ev_var rfl) (st_of hc.ht) fun H1 e1 => ?_
  refine q_asgP (evp_lcR1 (n := (nst d : Int)) (fun i H v => FrV K H v (chq d i 10)) (fun i Ha Hb v e h => h.mono e) (by rw [← hc.ul]; exact ea_cons (ev_len (ev_var rfl) (sq_of (hc.mono e1).hp)) ea_nil) (by omega) (fun _ => rfl) fun j H2 e2 hj =>
    EvP.imp (evp_chance (c := 10) o (hc0.mono (e1.trans e2)) (by omega) (by decide) (ev_var rfl) (ev_var rfl) ev_c) fun Ha Hb v _ _ h Dl acc _ hA hE => h.hide (hE _ _ hA)) fun x H2 e2 ⟨r, rs, hx, _, hr, hrl, hrr⟩ => ?_
  have lf0 : LF K H2 x (wiL d 0) := by
    rw [hx]
    exact lf_of hr (by omega) hrr
  refine q_forR1 (n := (k : Int)) (ea_cons (ev_var rfl) ea_nil) (by omega) (fun m σ H' => ∃ (y : V) (z1 : Option V), σ = [some (.ref t), some (.int i), some (.int k), some (.int (d.memory : Nat)), some (.ref p), some (.ref q), some y, z1, none] ∧ Ex H H' ∧ LF K H' y (wiL d m))
    (fun H3 e3 => ⟨x, none, rfl, (e1.trans e2).trans e3, LF.mono e3 lf0⟩) ?_ ?_
  · rintro m σ H' hm ⟨y, z1, rfl, e, hy⟩
    have hm' : m < 6 := by omega
    refine s_asgP (evp_lcR1 (n := (nst d : Int)) (fun i H v => FrV K H v (omK d i (wiL d m) 10)) (fun i Ha Hb v e h => h.mono e) (by rw [← hc.ul]; exact ea_cons (ev_len (ev_var rfl) (sq_of (hc.mono e).hp)) ea_nil) (by omega) (fun _ => rfl) fun j H2 e2 hj =>
      EvP.imp (evp_callA (R := fun _ H2 x => FrV K H2 x (omK d j (wiL d m) 10)) (ea_cons (ev_var rfl) (ea_cons (ev_var rfl) (ea_cons (ev_var rfl) ea_nil))) fun H3 e3 Q3 k3 E3 => ⟨rfl, _, y, d, j, wiL d m, rfl, o, hc0.mono ((e.trans e2).trans e3), by omega, LF.mono (e2.trans e3) hy, hah m hm', fun u H4 e4 hu => k3 _ H4 e4 hu⟩)
        fun Ha Hb v _ _ ⟨_, _, h⟩ Dl acc _ hA hE => h.hide (hE _ _ hA)) fun x H2 e2 ⟨r, rs, hx, _, hr, hrl, hrr⟩ => ⟨x, _, rfl, e.trans e2, ?_⟩
    rw [hx]
    exact lf_of hr (by omega) hrr
  · rintro σ H' ⟨y, z1, rfl, e, hy⟩
    have ek : ((k : Int)).toNat = k := by omega
    rw [ek] at hy
    exact s_retP (evp_ixF (rs := wiL d k) (EvP.imp (evp_ev (ev_var rfl)) fun H5 H6 u e5 e6 hu => by subst hu; exact LF.mono (e5.trans e6) hy) (ev_var rfl) (by rw [wiL_len]; exact hi)) fun u H3 e3 hu => hQ u H3 (e.trans e3) hu

/-! ### beginning, whole -/
def chS (d : Desk) (s : List Nat) (a : Nat) : Rat := mkRat ((fromTo d s a : Nat) : Int) (from_ d s)
def bgK (d : Desk) (row : List Nat) (k : Nat) : Rat := (List.range k).foldl (fun acc a => if acc ≠ 0 then acc * chS d (mind d.memory (row.take a)) (row.getD a 0) else acc) 1
theorem bgK_succ (d : Desk) (row : List Nat) (k : Nat) : bgK d row (k + 1) = if bgK d row k ≠ 0 then bgK d row k * chS d (mind d.memory (row.take k)) (row.getD k 0) else bgK d row k := by
  unfold bgK
  rw [List.range_succ, List.foldl_append]
  rfl
theorem chS_chq {d : Desk} {s : List Nat} (hs : s ∈ states d) (a : Nat) : chS d s a = chq d ((states d).findIdx fun t => t == s) a := by
  unfold chS chq wt tot
  rw [CN.st_find hs]
theorem chS_ne {d : Desk} {s : List Nat} {a : Nat} (h : chS d s a ≠ 0) : 0 < fromTo d s a := by
  by_cases c : fromTo d s a = 0
  · refine absurd ?_ h
    unfold chS
    rw [c, CN.mkRat_nat]
    show (0 : Rat) / _ = 0
    grind
  · omega
theorem row_take {row : List Nat} {k : Nat} (hk : k < row.length) : row.take (k + 1) = row.take k ++ [row.getD k 0] := by
  rw [List.getD_eq_getElem?_getD, List.getElem?_eq_getElem hk]
  exact (List.take_append_getElem hk).symm
theorem bgK_mem {d : Desk} (o : CN.DeskOk d) (hne : d.cases ≠ []) {row : List Nat} (hra : ∀ a ∈ row, a < 10) : ∀ {k : Nat}, k ≤ row.length → bgK d row k ≠ 0 → mind d.memory (row.take k) ∈ states d
  | 0, _, _ => by
    rw [List.take_zero, CN.mind_nil]
    exact CN.nil_mem hne
  | k + 1, hk, h => by
    rw [bgK_succ] at h
    by_cases c : bgK d row k ≠ 0
    · rw [if_pos c] at h
      have h2 : chS d (mind d.memory (row.take k)) (row.getD k 0) ≠ 0 := fun z => h (by rw [z]; grind)
      have ha : row.getD k 0 < 10 := hra _ (by
        rw [List.getD_eq_getElem?_getD, List.getElem?_eq_getElem (by omega : k < row.length)]
        exact List.getElem_mem _)
      have m := CN.onTo_mem o ha (chS_ne h2)
      rw [row_take (by omega)]
      unfold onTo at m
      rw [CN.mind_mind] at m
      exact m
    · rw [if_neg c] at h
      exact absurd h c
theorem bgK_sz {d : Desk} (o : CN.DeskOk d) (hne : d.cases ≠ []) {row : List Nat} (hra : ∀ a ∈ row, a < 10) : ∀ {k : Nat}, k ≤ row.length → 0 ≤ bgK d row k ∧ Sz (bgK d row k) (14 * (k + 1))
  | 0, _ => ⟨by show (0 : Rat) ≤ 1; decide, by show Sz 1 14; exact ⟨by decide, by decide⟩⟩
  | k + 1, hk => by
    obtain ⟨h1, h2⟩ := bgK_sz o hne hra (k := k) (by omega)
    rw [bgK_succ]
    by_cases c : bgK d row k ≠ 0
    · rw [if_pos c]
      have m := bgK_mem o hne hra (by omega) c
      rw [chS_chq m]
      exact ⟨Rat.mul_nonneg h1 (chq_nn _ _ _), (h2.mul (chq_sz o (CN.find_lt m))).up (by omega)⟩
    · rw [if_neg c]
      exact ⟨h1, h2.up (by omega)⟩
theorem placeOf_mem {d : Desk} {s : List Nat} (h : s ∈ states d) : placeOf (states d) s = some ((states d).findIdx fun t => t == s) := by
  unfold placeOf
  rw [if_pos h]
def sp_beginning (K : PySem.W.Frag) : Sp := fun vs H Q _ => vs.length = 2 ∧ ∃ (v x : V) (d : Desk) (row : List Nat), vs = [v, x] ∧ CN.DeskOk d ∧ ChainV H v d ∧ d.cases ≠ [] ∧ LI H x (n2i row) ∧ row.length ≤ 8 ∧ (∀ a ∈ row, a < 10) ∧ RetFr K H (bgK d row row.length) Q
theorem sc_beginning : FnScope ["chain", "row", "found", "at"] ["chain", "row"] (defScope (top 54)) := ⟨rfl, rfl, rfl, by decide +kernel, rfl, by decide +kernel, by decide +kernel⟩
theorem cal_beginning {P : Program} {w : World} {K : PySem.W.Frag} {mg : Str → Option Value} {base : Heap} (g : Glo K mg "beginning" (top 54)) (T : Txt K mg) (c_chance : Cal P w K mg base 3 "chance" (sp_chance K)) (c_place_in : Cal P w K mg base 2 "place_in" (sp_place_in K)) (c_times : Cal P w K mg base 3 "times" (sp_times K)) : Cal P w K mg base 4 "beginning" (sp_beginning K) := by
  refine cal_by g sc_beginning (fun _ _ _ _ _ _ us hl => match us, hl with | [_, _], _ => rfl) (fun vs H Q E h => h.1) fun f cdv A outer s H vs Q E hr h => ?_
  have nd := sc_beginning.nd
  obtain ⟨aNOTHING, hNOTHING, qNOTHING⟩ := T.NOTHING
  obtain ⟨aWHOLE, hWHOLE, qWHOLE⟩ := T.WHOLE
  refine ⟨_, (pss_cons (ps_set (i := 2) nd rfl (Or.inl rfl) (C8.pe_gc rfl hWHOLE))
      (pss_cons (ps_for PassesOwn.never rfl (pi_range1 rfl T.range (pa_cons (pe_callB call_len_seq (by rfl) T.len PySem.boot_len (pa_cons (pv 1) pa_nil)) pa_nil)) (pg_name (i := 3) nd rfl (Or.inl rfl)) (pss_one (ps_if (pt_cmpR (op_neD hr.units) (pv 2) (C8.pe_gc rfl hNOTHING) (nomark _)) (pss_one (ps_set (i := 2) nd rfl (Or.inl rfl) (C8.pe_c c_times hr (by decide) rfl (pa_cons (pv 2) (pa_cons (C8.pe_c c_chance hr (by decide) rfl (pa_cons (pv 0) (pa_cons (C8.pe_c c_place_in hr (by decide) rfl (pa_cons (pv 0) (pa_cons (pe_slice sl_list (pv 1) po_none (po_some (pv 3))) pa_nil))) (pa_cons (pe_ix ix_list (pv 1) (pv 3) (fun _ _ => rfl)) pa_nil)))) pa_nil))))) pss_nil)))
      (pss_one (ps_ret (pv 2))))), ?_⟩
  obtain ⟨_, v, x, d, row, rfl, o, hc, hne, ⟨b, rfl, hb⟩, hrl, hra, hQ⟩ := h
  refine q_asg ev_c fun H1 e1 => ?_
  refine q_forR1 (n := (row.length : Int)) (by
      have e : (row.length : Int) = ((((n2i row).map V.int).length : Nat) : Int) := by rw [List.length_map, n2i_len]
      rw [e]
      exact ea_cons (ev_len (ev_var rfl) (sq_of (e1 _ _ hb))) ea_nil) (by omega)
    (fun k σ H' => ∃ (y : V) (z1 : Option V), σ = [some v, some (.ref b), some y, z1] ∧ Ex H H' ∧ FrV K H' y (bgK d row k))
    (fun H3 e3 => ⟨_, none, rfl, e1.trans e3, aWHOLE, rfl, qWHOLE H3⟩) ?_ ?_
  · rintro k σ H' hk ⟨y, z1, rfl, e, hy⟩
    have hk' : k < row.length := by omega
    refine s_when (et_test (ev_op (ev_var rfl) ev_c (rv_neF hy qNOTHING))) (fun hbb H4 e4 => ?_) (fun hbb H4 e4 => ?_)
    · have hne2 : bgK d row k ≠ 0 := fun q => by
        rw [decide_eq_true q] at hbb
        cases hbb
      have m := bgK_mem o hne hra (by omega) hne2
      have ee := e.trans e4
      have sz := bgK_sz o hne hra (k := k) (by omega)
      have il := CN.find_lt m
      have ra : row.getD k 0 < 10 := hra _ (by
        rw [List.getD_eq_getElem?_getD, List.getElem?_eq_getElem hk']
        exact List.getElem_mem _)
      have eg : (n2i row).getD k 0 = ((row.getD k 0 : Nat) : Int) := by
        unfold n2i
        rw [List.getD_eq_getElem?_getD, List.getElem?_map, List.getD_eq_getElem?_getD, List.getElem?_eq_getElem hk']
        rfl
      refine s_asgP (evp_times (a := bgK d row k) (b := chq d ((states d).findIdx fun t => t == mind d.memory (row.take k)) (row.getD k 0)) (m := 14 * (k + 1)) (k := 14) (hy.mono e4) (ev_var rfl)
        (evp_chance o (hc.mono ee) il (by omega) (ev_var rfl) (by
            have q := ev_place_in (K := K) (E := C8.E0) (s := row.take k) (ta := tVar 0) (tb := tSl (rSlL K) (tVar 1) tNoPart (tPart (tVar 3))) (σ := [some v, some (.ref b), some y, some (.int (k : Int))]) o (hc.mono ee) (ev_var rfl) (EvP.imp (evp_evL (el_sl (K := K) (ev_var rfl) eo_none (eo_some (ev_var rfl)) (sq_of (ee _ _ hb)))) fun H5 H6 u e5 e6 ⟨r, hu, _, hr⟩ => ⟨r, hu, by
              rw [hr, cut_head, ← List.map_take]
              unfold n2i
              rw [← List.map_take]⟩)
            rw [placeOf_mem m] at q
            exact q)
          (by
            rw [← eg]
            exact ev_cell (K := K) (ev_var rfl) (ev_var rfl) (ee _ _ hb) (by rw [n2i_len]; exact hk')))
        sz.1 (chq_nn _ _ _) sz.2 (chq_sz o il) (by omega) (by decide) (by omega)) fun u H5 e5 hu => ⟨u, some (.int (k : Int)), rfl, ee.trans e5, ?_⟩
      rw [bgK_succ, if_pos hne2, chS_chq m]
      exact hu
    · have hz0 : ¬ bgK d row k ≠ 0 := fun q => by
        rw [decide_eq_false q] at hbb
        cases hbb
      refine ⟨y, some (.int (k : Int)), rfl, e.trans e4, ?_⟩
      rw [bgK_succ, if_neg hz0]
      exact hy.mono e4
  · rintro σ H' ⟨y, z1, rfl, e, hy⟩
    exact s_ret (ev_var rfl) fun H3 e3 => hQ y H3 (e.trans e3) (hy.mono e3)
def whQ (d : Desk) (row : List Nat) : Rat := if bgK d row row.length = 0 then 0 else bgK d row row.length * chS d (mind d.memory row) 10
def sp_whole (K : PySem.W.Frag) : Sp := fun vs H Q _ => vs.length = 2 ∧ ∃ (v x : V) (d : Desk) (row : List Nat), vs = [v, x] ∧ CN.DeskOk d ∧ ChainV H v d ∧ d.cases ≠ [] ∧ LI H x (n2i row) ∧ row.length ≤ 8 ∧ (∀ a ∈ row, a < 10) ∧ RetFr K H (whQ d row) Q
theorem sc_whole : FnScope ["chain", "row", "found"] ["chain", "row"] (defScope (top 55)) := ⟨rfl, rfl, rfl, by decide +kernel, rfl, by decide +kernel, by decide +kernel⟩
theorem cal_whole {P : Program} {w : World} {K : PySem.W.Frag} {mg : Str → Option Value} {base : Heap} (g : Glo K mg "whole" (top 55)) (T : Txt K mg) (c_beginning : Cal P w K mg base 4 "beginning" (sp_beginning K)) (c_chance : Cal P w K mg base 3 "chance" (sp_chance K)) (c_place_in : Cal P w K mg base 2 "place_in" (sp_place_in K)) (c_times : Cal P w K mg base 3 "times" (sp_times K)) : Cal P w K mg base 5 "whole" (sp_whole K) := by
  refine cal_by g sc_whole (fun _ _ _ _ _ _ us hl => match us, hl with | [_, _], _ => rfl) (fun vs H Q E h => h.1) fun f cdv A outer s H vs Q E hr h => ?_
  have nd := sc_whole.nd
  obtain ⟨aNOTHING, hNOTHING, qNOTHING⟩ := T.NOTHING
  refine ⟨_, (pss_cons (ps_set (i := 2) nd rfl (Or.inl rfl) (C8.pe_c c_beginning hr (by decide) rfl (pa_cons (pv 0) (pa_cons (pv 1) pa_nil))))
      (pss_cons (ps_if (pt_cmpR (op_eqD hr.units) (pv 2) (C8.pe_gc rfl hNOTHING) (nomark _)) (pss_one (ps_ret (C8.pe_gc rfl hNOTHING))) pss_nil)
      (pss_one (ps_ret (C8.pe_c c_times hr (by decide) rfl (pa_cons (pv 2) (pa_cons (C8.pe_c c_chance hr (by decide) rfl (pa_cons (pv 0) (pa_cons (C8.pe_c c_place_in hr (by decide) rfl (pa_cons (pv 0) (pa_cons (pv 1) pa_nil))) (pa_cons (C8.pe_gc rfl T.END) pa_nil)))) pa_nil))))))), ?_⟩
  obtain ⟨_, v, x, d, row, rfl, o, hc, hne, hb, hrl, hra, hQ⟩ := h
  have sz := bgK_sz o hne hra (k := row.length) (Nat.le_refl _)
  refine q_asgP (EvP.imp (evp_callA (R := fun _ H2 x => FrV K H2 x (bgK d row row.length)) (ea_cons (ev_var rfl) (ea_cons (ev_var rfl) ea_nil)) fun H3 e3 Q3 k3 E3 => ⟨rfl, v, x, d, row, rfl, o, hc.mono e3, hne, hb.mono e3, hrl, hra, fun u H4 e4 hu => k3 _ H4 e4 hu⟩) fun _ _ _ _ _ ⟨_, _, h⟩ => h) fun y H1 e1 hy => ?_
  refine q_when (et_test (ev_op (ev_var rfl) ev_c (rv_eqF hy qNOTHING))) (fun hbb H2 e2 => ?_) (fun hbb H2 e2 => ?_)
  · have z := of_decide_eq_true hbb
    refine s_ret ev_c fun H3 e3 => hQ _ H3 ((e1.trans e2).trans e3) ?_
    unfold whQ
    rw [if_pos z]
    exact ⟨aNOTHING, rfl, qNOTHING H3⟩
  · have z := of_decide_eq_false hbb
    have m := bgK_mem o hne hra (Nat.le_refl _) z
    rw [List.take_length] at m
    have il := CN.find_lt m
    have ee := e1.trans e2
    refine s_retP (evp_times (a := bgK d row row.length) (b := chq d ((states d).findIdx fun t => t == mind d.memory row) 10) (m := 14 * (row.length + 1)) (k := 14) (hy.mono e2) (ev_var rfl)
      (evp_chance (c := 10) o (hc.mono ee) il (by decide) (ev_var rfl) (by
          have q := ev_place_in (K := K) (E := C8.E0) (s := row) (ta := tVar 0) (tb := tVar 1) (σ := [some v, some x, some y]) o (hc.mono ee) (ev_var rfl) (EvP.imp (evp_ev (ev_var rfl)) fun H5 H6 u e5 e6 hu => by subst hu; exact hb.mono ((ee.trans e5).trans e6))
          rw [placeOf_mem m] at q
          exact q) ev_c)
      sz.1 (chq_nn _ _ _) sz.2 (chq_sz o il) (by omega) (by decide) (by omega)) fun u H3 e3 hu => hQ u H3 (ee.trans e3) ?_
    unfold whQ
    rw [if_neg z, chS_chq m]
    exact hu
end CW
/-! The object, and what is told of the row. -/
namespace CW
open PySem PySem.Spec PyProof.Rows L2 Evl
open Km522 (n2i mind Desk Case END states onTo from_ fromTo now)
open CN (Stp thg tab trow stepsOf nst wt tot nxt)

/-- what the top has written of the class -/
structure BkT (K : PySem.W.Frag) (mg : Str → Option Value) (C : Addr) : Prop where
  cl : Cls K C
  nb : NoAttr K C "begun"
  nc : NoAttr K C "cases"
  nr : NoAttr K C "row"
  nm : NoAttr K C "memory"
  gB : mg "Book" = some (.ref C)
  made : ∃ f fd, Mk K C f ∧ L2.Fun K "__init__" "Book.__init__" (inClass (top 10) 0) f fd
structure MetF (K : PySem.W.Frag) (C : Addr) (m qual : Str) (st : Stmt) : Prop where
  ex : ∃ f fd, Meth K C m f ∧ L2.Fun K m qual st f fd
section
variable {P : Program} {w : World} {K : PySem.W.Frag} {mg : Str → Option Value} {base : Heap} {C : Addr}
theorem met_by {m qual : Str} {st : Stmt} {N ps : List Str} {k : Nat} {sp : Sp} (cl : Cls K C) (g : MetF K C m qual st) (S : FnScope N ps (defScope st))
    (hb : ∀ (kV doc pm : Value) (an : Option Addr) (cdv ct : Value) (us : List Value), us.length = ps.length → bindArgs (PySem.W.fnOf m qual (defArgs st) (defBody st) (defScope st) .none kV doc pm an cdv ct) ⟨us, []⟩ = pure (ps.zip us))
    (len : ∀ vs H Q E, sp vs H Q E → vs.length = ps.length)
    (hbody : ∀ (f : Addr) (cdv : Value) (A : Around) (outer : List Env) (s : Shared) (H : Hp) (vs : List V) (Q : VK) (E : XK), Room k (A.deeper (envOfC qual (defScope st) s.heap.objs.size f cdv)) → sp vs H Q E →
      ∃ t, PSs (cxOf CX0 P w K mg base N qual (defScope st) f cdv A outer s H E).nox (defBody st) t ∧ t { nx := fun _ H' => Q .non H', rt := Q } (start N vs) H) : C8.Met P w K mg base (k + 1) C m sp [] := by
  obtain ⟨f, fd, me, F⟩ := g.ex
  exact ⟨f, fd, ps, [], cl, me, F.ok S len (fun cdv A outer s H vs Q E hr h => hbody f cdv A outer s H vs Q E hr h), F.binds hb, .nil⟩
theorem mak_by {N ps : List Str} {k : Nat} {sp : Sp} (B : BkT K mg C) (S : FnScope N ps (defScope (inClass (top 10) 0)))
    (hb : ∀ (kV doc pm : Value) (an : Option Addr) (cdv ct : Value) (us : List Value), us.length = ps.length → bindArgs (PySem.W.fnOf "__init__" "Book.__init__" (defArgs (inClass (top 10) 0)) (defBody (inClass (top 10) 0)) (defScope (inClass (top 10) 0)) .none kV doc pm an cdv ct) ⟨us, []⟩ = pure (ps.zip us))
    (len : ∀ vs H Q E, sp vs H Q E → vs.length = ps.length)
    (hbody : ∀ (f : Addr) (cdv : Value) (A : Around) (outer : List Env) (s : Shared) (H : Hp) (vs : List V) (Q : VK) (E : XK), Room k (A.deeper (envOfC "Book.__init__" (defScope (inClass (top 10) 0)) s.heap.objs.size f cdv)) → sp vs H Q E →
      ∃ t, PSs (cxOf CX0 P w K mg base N "Book.__init__" (defScope (inClass (top 10) 0)) f cdv A outer s H E).nox (defBody (inClass (top 10) 0)) t ∧ t { nx := fun _ H' => Q .non H', rt := Q } (start N vs) H) : C8.Mak P w K mg base (k + 1) "Book" C sp [] := by
  obtain ⟨f, fd, M, F⟩ := B.made
  exact ⟨f, fd, ps, [], M, F.ok S len (fun cdv A outer s H vs Q E hr h => hbody f cdv A outer s H vs Q E hr h), B.gB, F.binds hb, .nil⟩
end

/-! ### the object's fields -/
def bF (b : Bool) (cl rl : Addr) (m : Nat) : List (Str × V) := [("begun", .bl b), ("cases", .ref cl), ("row", .ref rl), ("memory", .int (m : Nat))]
theorem lk_here {k : Str} {v : V} {r : List (Str × V)} : List.lookup k ((k, v) :: r) = some v := by
  have e : (k == k) = true := beq_self_eq_true k
  simp only [List.lookup, e]
theorem lk_past {k g : Str} {v : V} {r : List (Str × V)} (h : (k == g) = false) : List.lookup k ((g, v) :: r) = List.lookup k r := by
  simp only [List.lookup, h]
theorem put_here {f : Str} {v x : V} {r : List (Str × V)} : putF f v ((f, x) :: r) = (f, v) :: r := if_pos rfl
theorem put_past {f g : Str} {v x : V} {r : List (Str × V)} (h : ¬ g = f) : putF f v ((g, x) :: r) = (g, x) :: putF f v r := if_neg h
section
variable {b : Bool} {cl rl x : Addr} {m : Nat}
theorem bF_begun : (bF b cl rl m).lookup ("begun" : Str) = some (.bl b) := lk_here
theorem bF_cases : (bF b cl rl m).lookup ("cases" : Str) = some (.ref cl) := (lk_past (by decide +kernel)).trans lk_here
theorem bF_row : (bF b cl rl m).lookup ("row" : Str) = some (.ref rl) := (lk_past (by decide +kernel)).trans ((lk_past (by decide +kernel)).trans lk_here)
theorem bF_memory : (bF b cl rl m).lookup ("memory" : Str) = some (.int (m : Nat)) := (lk_past (by decide +kernel)).trans ((lk_past (by decide +kernel)).trans ((lk_past (by decide +kernel)).trans lk_here))
theorem bF_restart : (bF b cl rl m).lookup ("restart" : Str) = none := (lk_past (by decide +kernel)).trans ((lk_past (by decide +kernel)).trans ((lk_past (by decide +kernel)).trans ((lk_past (by decide +kernel)).trans rfl)))
theorem bF_note : (bF b cl rl m).lookup ("note" : Str) = none := (lk_past (by decide +kernel)).trans ((lk_past (by decide +kernel)).trans ((lk_past (by decide +kernel)).trans ((lk_past (by decide +kernel)).trans rfl)))
theorem bF_renew : (bF b cl rl m).lookup ("renew" : Str) = none := (lk_past (by decide +kernel)).trans ((lk_past (by decide +kernel)).trans ((lk_past (by decide +kernel)).trans ((lk_past (by decide +kernel)).trans rfl)))
theorem put_begun {b' : Bool} : putF "begun" (.bl b') (bF b cl rl m) = bF b' cl rl m := put_here
theorem put_cases : putF "cases" (.ref x) (bF b cl rl m) = bF b x rl m := (put_past (by decide +kernel)).trans (congrArg _ put_here)
theorem put_row : putF "row" (.ref x) (bF b cl rl m) = bF b cl x m := (put_past (by decide +kernel)).trans (congrArg _ ((put_past (by decide +kernel)).trans (congrArg _ put_here)))
theorem put_memory {m' : Nat} : putF "memory" (.int (m' : Nat)) (bF b cl rl m) = bF b cl rl m' := (put_past (by decide +kernel)).trans (congrArg _ ((put_past (by decide +kernel)).trans (congrArg _ ((put_past (by decide +kernel)).trans (congrArg _ put_here)))))
end
/-- the object as it is read: what a heap that grows keeps -/
def BkQ (C : Addr) (H : Hp) (b : Addr) (d : Desk) : Prop := ∃ dx cl rl, H b = some (.ins C dx (bF true cl rl d.memory)) ∧ LG CsV H (.ref cl) d.cases ∧ LI H (.ref rl) (n2i d.row)
theorem BkQ.mono {C : Addr} {H H' : Hp} {b : Addr} {d : Desk} (e : Ex H H') (h : BkQ C H b d) : BkQ C H' b d := let ⟨dx, cl, rl, h1, h2, h3⟩ := h; ⟨dx, cl, rl, e _ _ h1, LG.mono (fun _ _ q => q.mono e) e h2, h3.mono e⟩
theorem ev_fld {K : PySem.W.Frag} {σ : L2.St} {H : Hp} {ta : TE} {a C dx : Addr} {fs : List (Str × V)} {f : Str} {v : V} (ha : Ev ta σ H (.ref a)) (ho : H a = some (.ins C dx fs)) (hc : Cls K C) (hn : NoAttr K C f) (hl : fs.lookup f = some v) : Ev (tFld K ta f) σ H v :=
  fun H1 e Q q => ha H1 e _ fun H2 e2 => ⟨a, C, dx, fs, v, rfl, (e.trans e2) _ _ ho, hc, hn, hl, q H2 e2⟩

/-! ### chain_in, and how every look begins -/
def sp_chain_in (K : PySem.W.Frag) (C : Addr) : Sp := fun vs H Q _ => vs.length = 1 ∧ ∃ (b : Addr) (d : Desk), vs = [.ref b] ∧ CN.DeskOk d ∧ BkQ C H b d ∧ ∀ p H', H p = none → Ex H H' → ChainV H' (.ref p) d → Q (.ref p) H'
theorem sc_chain_in : FnScope ["book"] ["book"] (defScope (top 59)) := ⟨rfl, rfl, rfl, by decide +kernel, rfl, by decide +kernel, by decide +kernel⟩
theorem cal_chain_in {P : Program} {w : World} {K : PySem.W.Frag} {mg : Str → Option Value} {base : Heap} {C : Addr} (B : BkT K mg C) (g : Glo K mg "chain_in" (top 59)) (T : Txt K mg) (c_chain_of : Cal P w K mg base 2 "chain_of" (sp_chain_of K)) : Cal P w K mg base 3 "chain_in" (sp_chain_in K C) := by
  refine cal_by g sc_chain_in (fun _ _ _ _ _ _ us hl => match us, hl with | [_], _ => rfl) (fun vs H Q E h => h.1) fun f cdv A outer s H vs Q E hr h => ?_
  have nd := sc_chain_in.nd
  refine ⟨_, (pss_one (ps_ret (C8.pe_c c_chain_of hr (by decide) rfl (pa_cons (pe_fld (pv 0) rfl) (pa_cons (pe_fld (pv 0) rfl) pa_nil))))), ?_⟩
  obtain ⟨_, b, d, rfl, o, ⟨dx, cl, rl, hb, hcs, hrw⟩, hQ⟩ := h
  refine s_retP (evp_callA (R := fun H1 H2 v => ∃ p, v = .ref p ∧ H1 p = none ∧ ChainV H2 (.ref p) d) (ea_cons (ev_fld (ev_var rfl) hb B.cl B.nm bF_memory) (ea_cons (ev_fld (ev_var rfl) hb B.cl B.nc bF_cases) ea_nil)) fun H3 e3 Q3 k3 E3 => ⟨rfl, _, d, rfl, o, LG.mono (fun _ _ q => q.mono e3) e3 hcs, fun p H4 hp e4 hx => k3 _ H4 e4 ⟨p, rfl, hp, hx⟩⟩)
    fun v H3 e3 ⟨H0, e0, p, hv, hp, hx⟩ => ?_
  subst hv
  exact hQ p H3 (fresh_back e0 hp) e3 hx
def ix (d : Desk) : Nat := (states d).findIdx fun t => t == now d
section
variable {K : PySem.W.Frag} {mg : Str → Option Value} {C : Addr} {σ : L2.St} {H : Hp} {E E' : XK} {D : Ends} {tz : TS} {b : Addr} {d : Desk} {i j : Nat}
theorem evp_chain_in (o : CN.DeskOk d) (hb : BkQ C H b d) {ta : TE} (ha : Ev ta σ H (.ref b)) : EvP (tCall (sp_chain_in K C) [] E (tCons ta tNil)) σ H (fun _ H2 v => ChainV H2 v d) :=
  EvP.imp (evp_callA (R := fun _ H2 v => ChainV H2 v d) (ea_cons ha ea_nil) fun H3 e3 Q3 k3 E3 => ⟨rfl, b, d, rfl, o, hb.mono e3, fun p H4 hp e4 hx => k3 _ H4 e4 hx⟩) fun _ _ _ _ _ ⟨_, _, h⟩ => h
theorem ev_place_row (B : BkT K mg C) (o : CN.DeskOk d) (hb : BkQ C H b d) {v : V} (hc : ChainV H v d) {ta tb : TE} (e1 : Ev ta σ H v) (e2 : Ev tb σ H (.ref b)) : Ev (tCall (sp_place_in K) [] E (tCons ta (tCons (tFld K tb "row") tNil))) σ H (plV (placeOf (states d) (now d))) := by
  obtain ⟨dx, cl, rl, hb, hcs, hrw⟩ := hb
  exact ev_place_in o hc e1 (EvP.imp (evp_ev (ev_fld e2 hb B.cl B.nr bF_row)) fun H3 H4 u e3 e4 hu => by subst hu; exact hrw.mono (e3.trans e4))
/-- if place is None: return [..] -/
theorem q_none {T : List (List Nat)} {s : List Nat} {n : Int} (hj : σ[j]? = some (some (plV (placeOf T s)))) (h1 : s ∉ T → NewI H [n] D.rt) (h2 : s ∈ T → ∀ H1, Ex H H1 → tz D σ H1) :
    tSeq (tIfS (tTest (tOp (fun x y H Q => y = V.non ∧ Q (V.bl (decide (x = V.non))) H) (tVar j) (tC V.non))) (tRet (tLst (tCons (tC (.int n)) tNil))) tNext) tz D σ H := by
  refine q_when (b := decide (s ∉ T)) ?_ (fun hb H1 e1 => ?_) (fun hb H1 e1 => ?_)
  · rw [← mem_none]
    exact et_test (ev_op (ev_var hj) ev_c (rv_val fun H1 e1 Q q => ⟨rfl, q⟩))
  · exact s_retL (el_lst (ea_cons ev_c ea_nil) (by show 1 ≤ 100000; decide)) fun p H2 hp e2 hx => h1 (of_decide_eq_true hb) p H2 (fresh_back e1 hp) (e1.trans e2) hx
  · exact h2 (by
      by_cases z : s ∈ T
      · exact z
      · exact absurd z (of_decide_eq_false hb)) H1 e1
/-- chain = chain_in(book); place = place_in(chain, book.row); if place is None: return [NOT_KNOWN] -/
theorem q_known (B : BkT K mg C) (o : CN.DeskOk d) (hb : BkQ C H b d) (h0 : σ[0]? = some (some (.ref b))) (h0' : ∀ c, (σ.set i (some c))[0]? = some (some (.ref b))) (hi : ∀ c, (σ.set i (some c))[i]? = some (some c)) (hj : ∀ c p, ((σ.set i (some c)).set j (some p))[j]? = some (some p))
    (hn : now d ∉ states d → NewI H [-33] D.rt) (hy : now d ∈ states d → ∀ ch H1, Ex H H1 → ChainV H1 ch d → tz D ((σ.set i (some ch)).set j (some (.int (ix d : Nat)))) H1) :
    tSeq (tAsg (tCall (sp_chain_in K C) [] E (tCons (tVar 0) tNil)) (gName i)) (tSeq (tAsg (tCall (sp_place_in K) [] E' (tCons (tVar i) (tCons (tFld K (tVar 0) "row") tNil))) (gName j))
      (tSeq (tIfS (tTest (tOp (fun x y H Q => y = V.non ∧ Q (V.bl (decide (x = V.non))) H) (tVar j) (tC V.non))) (tRet (tLst (tCons (tC (.int (-33))) tNil))) tNext) tz)) D σ H := by
  refine q_asgP (evp_chain_in o hb (ev_var h0)) fun ch H1 e1 hc => ?_
  refine q_asg (ev_place_row B o (hb.mono e1) hc (ev_var (hi ch)) (ev_var (h0' ch))) fun H2 e2 => ?_
  refine q_none (hj ch _) (fun hm => fun p H3 hp e3 hx => hn hm p H3 (fresh_back (e1.trans e2) hp) ((e1.trans e2).trans e3) hx) fun hm H3 e3 => ?_
  rw [placeOf_mem hm]
  exact hy hm ch H3 ((e1.trans e2).trans e3) (hc.mono (e2.trans e3))
theorem el_listF {ta : TE} {r : Rat} (h : EvP ta σ H (fun _ H2 v => FrV K H2 v r)) : EvL (tCB (fun xs H Q => ∃ p ys, xs = [.ref p] ∧ (SqL K H p ys ∨ SqT K H p ys) ∧ ∀ l, H l = none → Q (.ref l) (upd H l (.lst ys))) (tCons ta tNil)) σ H [.int r.num, .int r.den] :=
  fun H1 e Q q => h H1 e _ fun v H2 e2 ⟨a, hv, ha⟩ => ⟨a, _, by rw [hv], .inr ha, fun l hl => q l _ (fresh_back e2 hl) (e2.trans (Ex.new hl)) upd_same⟩
end
def frI (r : Rat) : List Int := [r.num, r.den]
def kn (d : Desk) (a : List Int) : List Int := if now d ∈ states d then a else [-33]
theorem kn_yes {d : Desk} {a : List Int} (h : now d ∈ states d) : kn d a = a := if_pos h
theorem kn_no {d : Desk} {a : List Int} (h : now d ∉ states d) : kn d a = [-33] := if_neg h
theorem ix_lt {d : Desk} (h : now d ∈ states d) : ix d < nst d := CN.find_lt h
theorem st_ix {d : Desk} (h : now d ∈ states d) : CN.st d (ix d) = now d := CN.st_find h
theorem NewI.to {H H' : Hp} {xs ys : List Int} {Q : VK} (h : NewI H xs Q) (e : Ex H H') (q : xs = ys) : NewI H' ys Q := by
  subst q
  exact fun p H2 hp e2 hx => h p H2 (fresh_back e hp) (e.trans e2) hx
theorem s_retI {σ : L2.St} {H : Hp} {D : Ends} {te : TE} {xs : List Int} (h : EvL te σ H (xs.map V.int)) (k : NewI H xs D.rt) : tRet te D σ H := s_retL h fun p H2 hp e2 hx => k p H2 hp e2 hx
section
variable {K : PySem.W.Frag} {σ : L2.St} {H : Hp} {ta tb : TE} {E : XK} {v : V} {d : Desk} {i : Nat}
theorem evp_awaited (o : CN.DeskOk d) (hc : ChainV H v d) (hi : i < nst d) (e1 : Ev ta σ H v) (e2 : Ev tb σ H (.int (i : Int))) : EvP (tCall (sp_awaited K) [] E (tCons ta (tCons tb tNil))) σ H (fun _ H2 x => FrV K H2 x ((CN.xsol d 10 (gAw d)).getD i 0)) :=
  EvP.imp (evp_callA (R := fun _ H2 x => FrV K H2 x ((CN.xsol d 10 (gAw d)).getD i 0)) (ea_cons e1 (ea_cons e2 ea_nil)) fun H3 e3 Q3 k3 E3 => ⟨rfl, v, d, i, rfl, o, hc.mono e3, hi, fun x H4 e4 hx => k3 _ H4 e4 hx⟩) fun _ _ _ _ _ ⟨_, _, h⟩ => h
end

/-! ### the looks -/
def sp_states_told (K : PySem.W.Frag) (C : Addr) : Sp := fun vs H Q _ => vs.length = 1 ∧ ∃ (b : Addr) (d : Desk), vs = [.ref b] ∧ CN.DeskOk d ∧ BkQ C H b d ∧ NewI H [(nst d : Int)] Q
theorem q_unpC {K : PySem.W.Frag} {σ : L2.St} {H : Hp} {te : TE} {D : Ends} {tz : TS} {d : Desk} {i j k : Nat} (h : EvP te σ H (fun _ H2 v => ChainV H2 v d)) (kk : ∀ t p q us ws H1, Ex H H1 → ChO H1 (.ref t) d t p q us ws → tz D (((σ.set i (some (.int (d.memory : Nat)))).set j (some (.ref p))).set k (some (.ref q))) H1) :
    tSeq (tAsg te (gTup K 3 (gCons (gName i) (gCons (gName j) (gCons (gName k) gNil))))) tz D σ H := h H (Ex.refl H) _ fun v H1 e hc => by
  obtain ⟨t, p, q, us, ws, hc⟩ := ChainV.opened hc
  have hv := hc.hv
  subst hv
  exact ⟨t, _, rfl, st_of hc.ht, rfl, _, _, rfl, _, _, rfl, _, _, rfl, rfl, kk t p q us ws H1 e hc⟩
theorem sc_states_told : FnScope ["book", "memory", "things", "weights"] ["book"] (defScope (top 60)) := ⟨rfl, rfl, rfl, by decide +kernel, rfl, by decide +kernel, by decide +kernel⟩
theorem cal_states_told {P : Program} {w : World} {K : PySem.W.Frag} {mg : Str → Option Value} {base : Heap} {C : Addr} (B : BkT K mg C) (g : Glo K mg "states_told" (top 60)) (T : Txt K mg) (c_chain_in : Cal P w K mg base 3 "chain_in" (sp_chain_in K C)) : Cal P w K mg base 4 "states_told" (sp_states_told K C) := by
  refine cal_by g sc_states_told (fun _ _ _ _ _ _ us hl => match us, hl with | [_], _ => rfl) (fun vs H Q E h => h.1) fun f cdv A outer s H vs Q E hr h => ?_
  have nd := sc_states_told.nd
  refine ⟨_, (pss_cons (ps_asg (C8.pe_c c_chain_in hr (by decide) rfl (pa_cons (pv 0) pa_nil)) (pg_tup rfl (pgs_cons (pg_name (i := 1) nd rfl (Or.inl rfl)) (pgs_cons (pg_name (i := 2) nd rfl (Or.inl rfl)) (pgs_cons (pg_name (i := 3) nd rfl (Or.inl rfl)) pgs_nil)))))
      (pss_one (ps_ret (pe_lst (pa_cons (pe_callB call_len_seq (by rfl) T.len PySem.boot_len (pa_cons (pv 2) pa_nil)) pa_nil))))), ?_⟩
  obtain ⟨_, b, d, rfl, o, hb, hQ⟩ := h
  refine q_unpC (evp_chain_in o hb (ev_var rfl)) fun t p q us ws H1 e1 hc => ?_
  refine s_retI (xs := [(nst d : Int)]) (by
    have e := el_lst (ea_cons (ev_len (K := K) (σ := [some (.ref b), some (.int (d.memory : Nat)), some (.ref p), some (.ref q)]) (ta := tVar 2) (ev_var rfl) (sq_of hc.hp)) ea_nil) (by show 1 ≤ 100000; decide)
    rw [hc.ul] at e
    exact e) (hQ.to e1 rfl)
def sp_known_told (K : PySem.W.Frag) (C : Addr) : Sp := fun vs H Q _ => vs.length = 1 ∧ ∃ (b : Addr) (d : Desk), vs = [.ref b] ∧ CN.DeskOk d ∧ BkQ C H b d ∧ NewI H [(from_ d (now d) : Int)] Q
theorem sc_known_told : FnScope ["book", "chain", "memory", "things", "weights", "place"] ["book"] (defScope (top 61)) := ⟨rfl, rfl, rfl, by decide +kernel, rfl, by decide +kernel, by decide +kernel⟩
theorem cal_known_told {P : Program} {w : World} {K : PySem.W.Frag} {mg : Str → Option Value} {base : Heap} {C : Addr} (B : BkT K mg C) (g : Glo K mg "known_told" (top 61)) (T : Txt K mg) (c_chain_in : Cal P w K mg base 3 "chain_in" (sp_chain_in K C)) (c_place_in : Cal P w K mg base 2 "place_in" (sp_place_in K)) : Cal P w K mg base 4 "known_told" (sp_known_told K C) := by
  refine cal_by g sc_known_told (fun _ _ _ _ _ _ us hl => match us, hl with | [_], _ => rfl) (fun vs H Q E h => h.1) fun f cdv A outer s H vs Q E hr h => ?_
  have nd := sc_known_told.nd
  refine ⟨_, (pss_cons (ps_set (i := 1) nd rfl (Or.inl rfl) (C8.pe_c c_chain_in hr (by decide) rfl (pa_cons (pv 0) pa_nil)))
      (pss_cons (ps_asg (pv 1) (pg_tup rfl (pgs_cons (pg_name (i := 2) nd rfl (Or.inl rfl)) (pgs_cons (pg_name (i := 3) nd rfl (Or.inl rfl)) (pgs_cons (pg_name (i := 4) nd rfl (Or.inl rfl)) pgs_nil)))))
      (pss_cons (ps_set (i := 5) nd rfl (Or.inl rfl) (C8.pe_c c_place_in hr (by decide) rfl (pa_cons (pv 1) (pa_cons (pe_fld (pv 0) rfl) pa_nil))))
      (pss_cons (ps_if (pt_cmpR op_isN (pv 5) pe_non (nomark _)) (pss_one (ps_ret (pe_lst (pa_cons pe_int pa_nil)))) pss_nil)
      (pss_one (ps_ret (pe_lst (pa_cons (pe_callB (cr_sum rfl) (by rfl) T.sum (by decide +kernel) (pa_cons (pe_ix ix_list (pv 4) (pv 5) (fun _ _ => rfl)) pa_nil)) pa_nil)))))))), ?_⟩
  obtain ⟨_, b, d, rfl, o, hb, hQ⟩ := h
  refine q_asgP (evp_chain_in o hb (ev_var rfl)) fun ch H1 e1 hc0 => ?_
  refine q_unpC (EvP.imp (evp_ev (ev_var rfl)) fun H3 H4 u e3 e4 hu => by subst hu; exact hc0.mono (e3.trans e4)) fun t p q us ws H2 e2 hc => ?_
  have ee := e1.trans e2
  refine q_asg (ev_place_row B o (hb.mono ee) (hc0.mono e2) (ev_var rfl) (ev_var rfl)) fun H3 e3 => ?_
  refine q_none rfl (fun hm => hQ.to (ee.trans e3) ?_) fun hm H4 e4 => ?_
  · have : ¬ 0 < from_ d (now d) := fun z => hm ((CN.from_pos o).mp z)
    have e : from_ d (now d) = 0 := by omega
    rw [e]
    rfl
  · rw [placeOf_mem hm]
    have hi := ix_lt hm
    obtain ⟨r, hr1, hr2, hr3⟩ := (hc.mono (e3.trans e4)).hw _ hi
    refine s_retI (xs := [(wrow d (ix d)).sum]) (el_lst (ea_cons (ev_sumL (ev_row (K := K) (ev_var rfl) (ev_var rfl) (hc.mono (e3.trans e4)).hq hr2) hr3) ea_nil) (by show 1 ≤ 100000; decide)) (hQ.to ((ee.trans e3).trans e4) ?_)
    rw [wrow_sum o]
    show _ = [((from_ d (CN.st d (ix d)) : Nat) : Int)]
    rw [st_ix hm]
theorem et_gtN {σ : L2.St} {H : Hp} {ta tb : TE} {a m : Nat} (h1 : Ev ta σ H (.int (a : Int))) (h2 : Ev tb σ H (.int (m : Int))) : EvT (tTest (tOp (rI0 fun i j => .bl (decide (j < i))) ta tb)) σ H (decide (m < a)) := by
  have e : decide ((m : Int) < (a : Int)) = decide (m < a) := decide_eq_decide.mpr (by omega)
  rw [← e]
  exact et_test (ev_op h1 h2 rv_I0)
/-- if a > m: return [n] -/
theorem q_refuse {σ : L2.St} {H : Hp} {D : Ends} {tz : TS} {ta tb : TE} {a m : Nat} {n : Int} (h1 : Ev ta σ H (.int (a : Int))) (h2 : Ev tb σ H (.int (m : Int))) (hy : m < a → NewI H [n] D.rt) (hn : ¬ m < a → ∀ H1, Ex H H1 → tz D σ H1) :
    tSeq (tIfS (tTest (tOp (rI0 fun i j => .bl (decide (j < i))) ta tb)) (tRet (tLst (tCons (tC (.int n)) tNil))) tNext) tz D σ H :=
  q_when (et_gtN h1 h2) (fun hb H1 e1 => s_retI (xs := [n]) (el_lst (ea_cons ev_c ea_nil) (by show 1 ≤ 100000; decide)) ((hy (of_decide_eq_true hb)).to e1 rfl)) (fun hb H1 e1 => hn (of_decide_eq_false hb) H1 e1)
def sp_next_told (K : PySem.W.Frag) (C : Addr) : Sp := fun vs H Q _ => vs.length = 2 ∧ ∃ (b : Addr) (d : Desk) (a : Nat), vs = [.ref b, .int a] ∧ CN.DeskOk d ∧ BkQ C H b d ∧ NewI H (if 10 < a then [-22] else kn d (frI (chq d (ix d) a))) Q
theorem sc_next_told : FnScope ["book", "what", "chain", "place"] ["book", "what"] (defScope (top 62)) := ⟨rfl, rfl, rfl, by decide +kernel, rfl, by decide +kernel, by decide +kernel⟩
theorem cal_next_told {P : Program} {w : World} {K : PySem.W.Frag} {mg : Str → Option Value} {base : Heap} {C : Addr} (B : BkT K mg C) (g : Glo K mg "next_told" (top 62)) (T : Txt K mg) (c_chain_in : Cal P w K mg base 3 "chain_in" (sp_chain_in K C)) (c_chance : Cal P w K mg base 3 "chance" (sp_chance K)) (c_place_in : Cal P w K mg base 2 "place_in" (sp_place_in K)) : Cal P w K mg base 4 "next_told" (sp_next_told K C) := by
  refine cal_by g sc_next_told (fun _ _ _ _ _ _ us hl => match us, hl with | [_, _], _ => rfl) (fun vs H Q E h => h.1) fun f cdv A outer s H vs Q E hr h => ?_
  have nd := sc_next_told.nd
  refine ⟨_, (pss_cons (ps_if (pt_cmpR op_gt (pv 1) (C8.pe_gc rfl T.END) (nomark _)) (pss_one (ps_ret (pe_lst (pa_cons (C8.pe_gc rfl T.NOT_AS_TOLD) pa_nil)))) pss_nil)
      (pss_cons (ps_set (i := 2) nd rfl (Or.inl rfl) (C8.pe_c c_chain_in hr (by decide) rfl (pa_cons (pv 0) pa_nil)))
      (pss_cons (ps_set (i := 3) nd rfl (Or.inl rfl) (C8.pe_c c_place_in hr (by decide) rfl (pa_cons (pv 2) (pa_cons (pe_fld (pv 0) rfl) pa_nil))))
      (pss_cons (ps_if (pt_cmpR op_isN (pv 3) pe_non (nomark _)) (pss_one (ps_ret (pe_lst (pa_cons (C8.pe_gc rfl T.NOT_KNOWN) pa_nil)))) pss_nil)
      (pss_one (ps_ret (pe_callTy call_list_of (by rfl) T.list (by decide +kernel) (pa_cons (C8.pe_c c_chance hr (by decide) rfl (pa_cons (pv 2) (pa_cons (pv 3) (pa_cons (pv 1) pa_nil)))) pa_nil)))))))), ?_⟩
  obtain ⟨_, b, d, a, rfl, o, hb, hQ⟩ := h
  refine q_refuse (ev_var rfl) (ev_c (v := .int ((10 : Nat) : Int))) (fun hy => hQ.to (Ex.refl H) (if_pos hy)) fun hn H1 e1 => ?_
  rw [if_neg hn] at hQ
  refine q_known B o (hb.mono e1) rfl (fun _ => rfl) (fun _ => rfl) (fun _ _ => rfl) (fun hm => hQ.to e1 (kn_no hm)) fun hm ch H2 e2 hc => ?_
  exact s_retI (xs := frI (chq d (ix d) a)) (el_listF (evp_chance o hc (ix_lt hm) (by omega) (ev_var rfl) (ev_var rfl) (ev_var rfl))) (hQ.to (e1.trans e2) (kn_yes hm))
def sp_likeliest_told (K : PySem.W.Frag) (C : Addr) : Sp := fun vs H Q _ => vs.length = 1 ∧ ∃ (b : Addr) (d : Desk), vs = [.ref b] ∧ CN.DeskOk d ∧ BkQ C H b d ∧ NewI H (kn d [(Km522.likeliest d (now d) : Int)]) Q
theorem sc_likeliest_told : FnScope ["book", "chain", "place"] ["book"] (defScope (top 63)) := ⟨rfl, rfl, rfl, by decide +kernel, rfl, by decide +kernel, by decide +kernel⟩
theorem cal_likeliest_told {P : Program} {w : World} {K : PySem.W.Frag} {mg : Str → Option Value} {base : Heap} {C : Addr} (B : BkT K mg C) (g : Glo K mg "likeliest_told" (top 63)) (T : Txt K mg) (c_chain_in : Cal P w K mg base 3 "chain_in" (sp_chain_in K C)) (c_likeliest : Cal P w K mg base 1 "likeliest" (sp_likeliest K)) (c_place_in : Cal P w K mg base 2 "place_in" (sp_place_in K)) : Cal P w K mg base 4 "likeliest_told" (sp_likeliest_told K C) := by
  refine cal_by g sc_likeliest_told (fun _ _ _ _ _ _ us hl => match us, hl with | [_], _ => rfl) (fun vs H Q E h => h.1) fun f cdv A outer s H vs Q E hr h => ?_
  have nd := sc_likeliest_told.nd
  refine ⟨_, (pss_cons (ps_set (i := 1) nd rfl (Or.inl rfl) (C8.pe_c c_chain_in hr (by decide) rfl (pa_cons (pv 0) pa_nil)))
      (pss_cons (ps_set (i := 2) nd rfl (Or.inl rfl) (C8.pe_c c_place_in hr (by decide) rfl (pa_cons (pv 1) (pa_cons (pe_fld (pv 0) rfl) pa_nil))))
      (pss_cons (ps_if (pt_cmpR op_isN (pv 2) pe_non (nomark _)) (pss_one (ps_ret (pe_lst (pa_cons (C8.pe_gc rfl T.NOT_KNOWN) pa_nil)))) pss_nil)
      (pss_one (ps_ret (pe_lst (pa_cons (C8.pe_c c_likeliest hr (by decide) rfl (pa_cons (pv 1) (pa_cons (pv 2) pa_nil))) pa_nil))))))), ?_⟩
  obtain ⟨_, b, d, rfl, o, hb, hQ⟩ := h
  refine q_known B o hb rfl (fun _ => rfl) (fun _ => rfl) (fun _ _ => rfl) (fun hm => hQ.to (Ex.refl H) (kn_no hm)) fun hm ch H2 e2 hc => ?_
  refine s_retI (xs := [(Km522.likeliest d (CN.st d (ix d)) : Int)]) (el_lst (ea_cons (ev_callV (ea_cons (ev_var rfl) (ea_cons (ev_var rfl) ea_nil)) fun H3 e3 Q3 k3 E3 => ⟨rfl, _, d, ix d, rfl, hc.mono e3, ix_lt hm, fun H4 e4 => k3 H4 e4⟩) ea_nil) (by show 1 ≤ 100000; decide)) (hQ.to e2 ?_)
  rw [kn_yes hm, st_ix hm]
def nxL (d : Desk) : List Nat := (List.range 11).filter fun a => fromTo d (now d) a != 0
def sp_nexts_told (K : PySem.W.Frag) (C : Addr) : Sp := fun vs H Q _ => vs.length = 1 ∧ ∃ (b : Addr) (d : Desk), vs = [.ref b] ∧ CN.DeskOk d ∧ BkQ C H b d ∧ NewI H (kn d (((nxL d).length : Int) :: n2i (nxL d))) Q
theorem sc_nexts_told : FnScope ["book", "chain", "place", "found"] ["book"] (defScope (top 64)) := ⟨rfl, rfl, rfl, by decide +kernel, rfl, by decide +kernel, by decide +kernel⟩
theorem cal_nexts_told {P : Program} {w : World} {K : PySem.W.Frag} {mg : Str → Option Value} {base : Heap} {C : Addr} (B : BkT K mg C) (g : Glo K mg "nexts_told" (top 64)) (T : Txt K mg) (c_chain_in : Cal P w K mg base 3 "chain_in" (sp_chain_in K C)) (c_place_in : Cal P w K mg base 2 "place_in" (sp_place_in K)) (c_possible : Cal P w K mg base 1 "possible" (sp_possible K)) : Cal P w K mg base 4 "nexts_told" (sp_nexts_told K C) := by
  refine cal_by g sc_nexts_told (fun _ _ _ _ _ _ us hl => match us, hl with | [_], _ => rfl) (fun vs H Q E h => h.1) fun f cdv A outer s H vs Q E hr h => ?_
  have nd := sc_nexts_told.nd
  refine ⟨_, (pss_cons (ps_set (i := 1) nd rfl (Or.inl rfl) (C8.pe_c c_chain_in hr (by decide) rfl (pa_cons (pv 0) pa_nil)))
      (pss_cons (ps_set (i := 2) nd rfl (Or.inl rfl) (C8.pe_c c_place_in hr (by decide) rfl (pa_cons (pv 1) (pa_cons (pe_fld (pv 0) rfl) pa_nil))))
      (pss_cons (ps_if (pt_cmpR op_isN (pv 2) pe_non (nomark _)) (pss_one (ps_ret (pe_lst (pa_cons (C8.pe_gc rfl T.NOT_KNOWN) pa_nil)))) pss_nil)
      (pss_cons (ps_set (i := 3) nd rfl (Or.inl rfl) (C8.pe_c c_possible hr (by decide) rfl (pa_cons (pv 1) (pa_cons (pv 2) pa_nil))))
      (pss_one (ps_ret (pe_op op_cat (pe_lst (pa_cons (pe_callB call_len_seq (by rfl) T.len PySem.boot_len (pa_cons (pv 3) pa_nil)) pa_nil)) (pv 3)))))))), ?_⟩
  obtain ⟨_, b, d, rfl, o, hb, hQ⟩ := h
  refine q_known B o hb rfl (fun _ => rfl) (fun _ => rfl) (fun _ _ => rfl) (fun hm => hQ.to (Ex.refl H) (kn_no hm)) fun hm ch H2 e2 hc => ?_
  refine q_asgP (evp_callA (R := fun H1 H2 v => ∃ p, v = .ref p ∧ H2 p = some (.lst ((n2i (nxL d)).map V.int))) (ea_cons (ev_var rfl) (ea_cons (ev_var rfl) ea_nil)) fun H3 e3 Q3 k3 E3 => ⟨rfl, _, d, ix d, rfl, hc.mono e3, ix_lt hm, fun p H4 hp e4 hx => k3 _ H4 e4 ⟨p, rfl, by
    rw [st_ix hm] at hx
    exact hx⟩⟩) fun v H3 e3 ⟨H0, e0, p, hv, hp⟩ => ?_
  subst hv
  have nl : (nxL d).length ≤ 11 := by
    unfold nxL
    have := List.length_filter_le (fun a => fromTo d (now d) a != 0) (List.range 11)
    rw [List.length_range] at this
    exact this
  refine s_retI (xs := ((nxL d).length : Int) :: n2i (nxL d)) (by
    have e := el_catLV (el_lst (ea_cons (ev_len (K := K) (H := H3) (σ := [some (.ref b), some ch, some (.int (ix d : Nat)), some (.ref p)]) (ta := tVar 3) (ev_var rfl) (sq_of hp)) ea_nil) (by show 1 ≤ 100000; decide)) (tb := tVar 3) (b := p) (ev_var rfl) hp (by rw [List.length_map, n2i_len]; show 1 + (nxL d).length ≤ 100000; omega)
    rw [List.length_map, n2i_len] at e
    exact e) (hQ.to (e2.trans e3) (kn_yes hm))
def sp_awaited_told (K : PySem.W.Frag) (C : Addr) : Sp := fun vs H Q _ => vs.length = 1 ∧ ∃ (b : Addr) (d : Desk), vs = [.ref b] ∧ CN.DeskOk d ∧ BkQ C H b d ∧ NewI H (kn d (frI ((CN.xsol d 10 (gAw d)).getD (ix d) 0))) Q
theorem sc_awaited_told : FnScope ["book", "chain", "place"] ["book"] (defScope (top 65)) := ⟨rfl, rfl, rfl, by decide +kernel, rfl, by decide +kernel, by decide +kernel⟩
theorem cal_awaited_told {P : Program} {w : World} {K : PySem.W.Frag} {mg : Str → Option Value} {base : Heap} {C : Addr} (B : BkT K mg C) (g : Glo K mg "awaited_told" (top 65)) (T : Txt K mg) (c_awaited : Cal P w K mg base 6 "awaited" (sp_awaited K)) (c_chain_in : Cal P w K mg base 3 "chain_in" (sp_chain_in K C)) (c_place_in : Cal P w K mg base 2 "place_in" (sp_place_in K)) : Cal P w K mg base 7 "awaited_told" (sp_awaited_told K C) := by
  refine cal_by g sc_awaited_told (fun _ _ _ _ _ _ us hl => match us, hl with | [_], _ => rfl) (fun vs H Q E h => h.1) fun f cdv A outer s H vs Q E hr h => ?_
  have nd := sc_awaited_told.nd
  refine ⟨_, (pss_cons (ps_set (i := 1) nd rfl (Or.inl rfl) (C8.pe_c c_chain_in hr (by decide) rfl (pa_cons (pv 0) pa_nil)))
      (pss_cons (ps_set (i := 2) nd rfl (Or.inl rfl) (C8.pe_c c_place_in hr (by decide) rfl (pa_cons (pv 1) (pa_cons (pe_fld (pv 0) rfl) pa_nil))))
      (pss_cons (ps_if (pt_cmpR op_isN (pv 2) pe_non (nomark _)) (pss_one (ps_ret (pe_lst (pa_cons (C8.pe_gc rfl T.NOT_KNOWN) pa_nil)))) pss_nil)
      (pss_one (ps_ret (pe_callTy call_list_of (by rfl) T.list (by decide +kernel) (pa_cons (C8.pe_c c_awaited hr (by decide) rfl (pa_cons (pv 1) (pa_cons (pv 2) pa_nil))) pa_nil))))))), ?_⟩
  obtain ⟨_, b, d, rfl, o, hb, hQ⟩ := h
  refine q_known B o hb rfl (fun _ => rfl) (fun _ => rfl) (fun _ _ => rfl) (fun hm => hQ.to (Ex.refl H) (kn_no hm)) fun hm ch H2 e2 hc => ?_
  exact s_retI (xs := frI ((CN.xsol d 10 (gAw d)).getD (ix d) 0)) (el_listF (evp_awaited o hc (ix_lt hm) (ev_var rfl) (ev_var rfl))) (hQ.to e2 (kn_yes hm))
def sp_comes_told (K : PySem.W.Frag) (C : Addr) : Sp := fun vs H Q _ => vs.length = 2 ∧ ∃ (b : Addr) (d : Desk) (a : Nat), vs = [.ref b, .int a] ∧ CN.DeskOk d ∧ BkQ C H b d ∧ NewI H (if 9 < a then [-22] else kn d (frI (cq d (ix d) a))) Q
theorem sc_comes_told : FnScope ["book", "act", "chain", "place"] ["book", "act"] (defScope (top 66)) := ⟨rfl, rfl, rfl, by decide +kernel, rfl, by decide +kernel, by decide +kernel⟩
theorem cal_comes_told {P : Program} {w : World} {K : PySem.W.Frag} {mg : Str → Option Value} {base : Heap} {C : Addr} (B : BkT K mg C) (g : Glo K mg "comes_told" (top 66)) (T : Txt K mg) (c_chain_in : Cal P w K mg base 3 "chain_in" (sp_chain_in K C)) (c_comes : Cal P w K mg base 6 "comes" (sp_comes K)) (c_place_in : Cal P w K mg base 2 "place_in" (sp_place_in K)) : Cal P w K mg base 7 "comes_told" (sp_comes_told K C) := by
  refine cal_by g sc_comes_told (fun _ _ _ _ _ _ us hl => match us, hl with | [_, _], _ => rfl) (fun vs H Q E h => h.1) fun f cdv A outer s H vs Q E hr h => ?_
  have nd := sc_comes_told.nd
  refine ⟨_, (pss_cons (ps_if (pt_cmpR op_gt (pv 1) (C8.pe_gc rfl T.MOST_ACT) (nomark _)) (pss_one (ps_ret (pe_lst (pa_cons (C8.pe_gc rfl T.NOT_AS_TOLD) pa_nil)))) pss_nil)
      (pss_cons (ps_set (i := 2) nd rfl (Or.inl rfl) (C8.pe_c c_chain_in hr (by decide) rfl (pa_cons (pv 0) pa_nil)))
      (pss_cons (ps_set (i := 3) nd rfl (Or.inl rfl) (C8.pe_c c_place_in hr (by decide) rfl (pa_cons (pv 2) (pa_cons (pe_fld (pv 0) rfl) pa_nil))))
      (pss_cons (ps_if (pt_cmpR op_isN (pv 3) pe_non (nomark _)) (pss_one (ps_ret (pe_lst (pa_cons (C8.pe_gc rfl T.NOT_KNOWN) pa_nil)))) pss_nil)
      (pss_one (ps_ret (pe_callTy call_list_of (by rfl) T.list (by decide +kernel) (pa_cons (C8.pe_c c_comes hr (by decide) rfl (pa_cons (pv 2) (pa_cons (pv 3) (pa_cons (pv 1) pa_nil)))) pa_nil)))))))), ?_⟩
  obtain ⟨_, b, d, a, rfl, o, hb, hQ⟩ := h
  refine q_refuse (ev_var rfl) (ev_c (v := .int ((9 : Nat) : Int))) (fun hy => hQ.to (Ex.refl H) (if_pos hy)) fun hn H1 e1 => ?_
  rw [if_neg hn] at hQ
  refine q_known B o (hb.mono e1) rfl (fun _ => rfl) (fun _ => rfl) (fun _ _ => rfl) (fun hm => hQ.to e1 (kn_no hm)) fun hm ch H2 e2 hc => ?_
  exact s_retI (xs := frI (cq d (ix d) a)) (el_listF (evp_comes o hc (ix_lt hm) (by omega) (ev_var rfl) (ev_var rfl) (ev_var rfl))) (hQ.to (e1.trans e2) (kn_yes hm))
def vq (d : Desk) (i a : Nat) : Rat := (CN.xsol d 10 (gAct d a)).getD i 0
def sp_visits_told (K : PySem.W.Frag) (C : Addr) : Sp := fun vs H Q _ => vs.length = 2 ∧ ∃ (b : Addr) (d : Desk) (a : Nat), vs = [.ref b, .int a] ∧ CN.DeskOk d ∧ BkQ C H b d ∧ NewI H (if 9 < a then [-22] else kn d (frI (vq d (ix d) a))) Q
theorem sc_visits_told : FnScope ["book", "act", "chain", "place"] ["book", "act"] (defScope (top 67)) := ⟨rfl, rfl, rfl, by decide +kernel, rfl, by decide +kernel, by decide +kernel⟩
theorem cal_visits_told {P : Program} {w : World} {K : PySem.W.Frag} {mg : Str → Option Value} {base : Heap} {C : Addr} (B : BkT K mg C) (g : Glo K mg "visits_told" (top 67)) (T : Txt K mg) (c_chain_in : Cal P w K mg base 3 "chain_in" (sp_chain_in K C)) (c_place_in : Cal P w K mg base 2 "place_in" (sp_place_in K)) (c_visits : Cal P w K mg base 6 "visits" (sp_visits K)) : Cal P w K mg base 7 "visits_told" (sp_visits_told K C) := by
  refine cal_by g sc_visits_told (fun _ _ _ _ _ _ us hl => match us, hl with | [_, _], _ => rfl) (fun vs H Q E h => h.1) fun f cdv A outer s H vs Q E hr h => ?_
  have nd := sc_visits_told.nd
  refine ⟨_, (pss_cons (ps_if (pt_cmpR op_gt (pv 1) (C8.pe_gc rfl T.MOST_ACT) (nomark _)) (pss_one (ps_ret (pe_lst (pa_cons (C8.pe_gc rfl T.NOT_AS_TOLD) pa_nil)))) pss_nil)
      (pss_cons (ps_set (i := 2) nd rfl (Or.inl rfl) (C8.pe_c c_chain_in hr (by decide) rfl (pa_cons (pv 0) pa_nil)))
      (pss_cons (ps_set (i := 3) nd rfl (Or.inl rfl) (C8.pe_c c_place_in hr (by decide) rfl (pa_cons (pv 2) (pa_cons (pe_fld (pv 0) rfl) pa_nil))))
      (pss_cons (ps_if (pt_cmpR op_isN (pv 3) pe_non (nomark _)) (pss_one (ps_ret (pe_lst (pa_cons (C8.pe_gc rfl T.NOT_KNOWN) pa_nil)))) pss_nil)
      (pss_one (ps_ret (pe_callTy call_list_of (by rfl) T.list (by decide +kernel) (pa_cons (C8.pe_c c_visits hr (by decide) rfl (pa_cons (pv 2) (pa_cons (pv 3) (pa_cons (pv 1) pa_nil)))) pa_nil)))))))), ?_⟩
  obtain ⟨_, b, d, a, rfl, o, hb, hQ⟩ := h
  refine q_refuse (ev_var rfl) (ev_c (v := .int ((9 : Nat) : Int))) (fun hy => hQ.to (Ex.refl H) (if_pos hy)) fun hn H1 e1 => ?_
  rw [if_neg hn] at hQ
  refine q_known B o (hb.mono e1) rfl (fun _ => rfl) (fun _ => rfl) (fun _ _ => rfl) (fun hm => hQ.to e1 (kn_no hm)) fun hm ch H2 e2 hc => ?_
  exact s_retI (xs := frI (vq d (ix d) a)) (el_listF (EvP.imp (evp_callA (R := fun _ H2 x => FrV K H2 x (vq d (ix d) a)) (ea_cons (ev_var rfl) (ea_cons (ev_var rfl) (ea_cons (ev_var rfl) ea_nil))) fun H3 e3 Q3 k3 E3 => ⟨rfl, _, d, ix d, a, rfl, o, hc.mono e3, ix_lt hm, by omega, fun x H4 e4 hx => k3 _ H4 e4 hx⟩) fun _ _ _ _ _ ⟨_, _, h⟩ => h)) (hQ.to (e1.trans e2) (kn_yes hm))
def sp_within_told (K : PySem.W.Frag) (C : Addr) : Sp := fun vs H Q _ => vs.length = 2 ∧ ∃ (b : Addr) (d : Desk) (k : Nat), vs = [.ref b, .int k] ∧ CN.DeskOk d ∧ BkQ C H b d ∧ (∀ j, j < 6 → AhOk d (wiL d j)) ∧ NewI H (if 6 < k then [-22] else kn d (frI ((wiL d k).getD (ix d) 0))) Q
theorem sc_within_told : FnScope ["book", "most", "chain", "place"] ["book", "most"] (defScope (top 68)) := ⟨rfl, rfl, rfl, by decide +kernel, rfl, by decide +kernel, by decide +kernel⟩
theorem cal_within_told {P : Program} {w : World} {K : PySem.W.Frag} {mg : Str → Option Value} {base : Heap} {C : Addr} (B : BkT K mg C) (g : Glo K mg "within_told" (top 68)) (T : Txt K mg) (c_chain_in : Cal P w K mg base 3 "chain_in" (sp_chain_in K C)) (c_place_in : Cal P w K mg base 2 "place_in" (sp_place_in K)) (c_within : Cal P w K mg base 5 "within" (sp_within K)) : Cal P w K mg base 6 "within_told" (sp_within_told K C) := by
  refine cal_by g sc_within_told (fun _ _ _ _ _ _ us hl => match us, hl with | [_, _], _ => rfl) (fun vs H Q E h => h.1) fun f cdv A outer s H vs Q E hr h => ?_
  have nd := sc_within_told.nd
  refine ⟨_, (pss_cons (ps_if (pt_cmpR op_gt (pv 1) (C8.pe_gc rfl T.MOST_WITHIN) (nomark _)) (pss_one (ps_ret (pe_lst (pa_cons (C8.pe_gc rfl T.NOT_AS_TOLD) pa_nil)))) pss_nil)
      (pss_cons (ps_set (i := 2) nd rfl (Or.inl rfl) (C8.pe_c c_chain_in hr (by decide) rfl (pa_cons (pv 0) pa_nil)))
      (pss_cons (ps_set (i := 3) nd rfl (Or.inl rfl) (C8.pe_c c_place_in hr (by decide) rfl (pa_cons (pv 2) (pa_cons (pe_fld (pv 0) rfl) pa_nil))))
      (pss_cons (ps_if (pt_cmpR op_isN (pv 3) pe_non (nomark _)) (pss_one (ps_ret (pe_lst (pa_cons (C8.pe_gc rfl T.NOT_KNOWN) pa_nil)))) pss_nil)
      (pss_one (ps_ret (pe_callTy call_list_of (by rfl) T.list (by decide +kernel) (pa_cons (C8.pe_c c_within hr (by decide) rfl (pa_cons (pv 2) (pa_cons (pv 3) (pa_cons (pv 1) pa_nil)))) pa_nil)))))))), ?_⟩
  obtain ⟨_, b, d, a, rfl, o, hb, hah, hQ⟩ := h
  refine q_refuse (ev_var rfl) (ev_c (v := .int ((6 : Nat) : Int))) (fun hy => hQ.to (Ex.refl H) (if_pos hy)) fun hn H1 e1 => ?_
  rw [if_neg hn] at hQ
  refine q_known B o (hb.mono e1) rfl (fun _ => rfl) (fun _ => rfl) (fun _ _ => rfl) (fun hm => hQ.to e1 (kn_no hm)) fun hm ch H2 e2 hc => ?_
  exact s_retI (xs := frI ((wiL d a).getD (ix d) 0)) (el_listF (EvP.imp (evp_callA (R := fun _ H2 x => FrV K H2 x ((wiL d a).getD (ix d) 0)) (ea_cons (ev_var rfl) (ea_cons (ev_var rfl) (ea_cons (ev_var rfl) ea_nil))) fun H3 e3 Q3 k3 E3 => ⟨rfl, _, d, ix d, a, rfl, o, hc.mono e3, ix_lt hm, by omega, hah, fun x H4 e4 hx => k3 _ H4 e4 hx⟩) fun _ _ _ _ _ ⟨_, _, h⟩ => h)) (hQ.to (e1.trans e2) (kn_yes hm))
def sp_surest_told (K : PySem.W.Frag) (C : Addr) : Sp := fun vs H Q _ => vs.length = 1 ∧ ∃ (b : Addr) (d : Desk), vs = [.ref b] ∧ CN.DeskOk d ∧ BkQ C H b d ∧ NewI H (kn d ((surB d (ix d) 10 : Int) :: frI (cq d (ix d) (surB d (ix d) 10)))) Q
theorem sc_surest_told : FnScope ["book", "chain", "place", "act", "part"] ["book"] (defScope (top 69)) := ⟨rfl, rfl, rfl, by decide +kernel, rfl, by decide +kernel, by decide +kernel⟩
theorem cal_surest_told {P : Program} {w : World} {K : PySem.W.Frag} {mg : Str → Option Value} {base : Heap} {C : Addr} (B : BkT K mg C) (g : Glo K mg "surest_told" (top 69)) (T : Txt K mg) (c_chain_in : Cal P w K mg base 3 "chain_in" (sp_chain_in K C)) (c_place_in : Cal P w K mg base 2 "place_in" (sp_place_in K)) (c_surest : Cal P w K mg base 7 "surest" (sp_surest K)) : Cal P w K mg base 8 "surest_told" (sp_surest_told K C) := by
  refine cal_by g sc_surest_told (fun _ _ _ _ _ _ us hl => match us, hl with | [_], _ => rfl) (fun vs H Q E h => h.1) fun f cdv A outer s H vs Q E hr h => ?_
  have nd := sc_surest_told.nd
  refine ⟨_, (pss_cons (ps_set (i := 1) nd rfl (Or.inl rfl) (C8.pe_c c_chain_in hr (by decide) rfl (pa_cons (pv 0) pa_nil)))
      (pss_cons (ps_set (i := 2) nd rfl (Or.inl rfl) (C8.pe_c c_place_in hr (by decide) rfl (pa_cons (pv 1) (pa_cons (pe_fld (pv 0) rfl) pa_nil))))
      (pss_cons (ps_if (pt_cmpR op_isN (pv 2) pe_non (nomark _)) (pss_one (ps_ret (pe_lst (pa_cons (C8.pe_gc rfl T.NOT_KNOWN) pa_nil)))) pss_nil)
      (pss_cons (ps_asg (C8.pe_c c_surest hr (by decide) rfl (pa_cons (pv 1) (pa_cons (pv 2) pa_nil))) (pg_tup rfl (pgs_cons (pg_name (i := 3) nd rfl (Or.inl rfl)) (pgs_cons (pg_name (i := 4) nd rfl (Or.inl rfl)) pgs_nil))))
      (pss_one (ps_ret (pe_op op_cat (pe_lst (pa_cons (pv 3) pa_nil)) (pe_callTy call_list_of (by rfl) T.list (by decide +kernel) (pa_cons (pv 4) pa_nil))))))))), ?_⟩
  obtain ⟨_, b, d, rfl, o, hb, hQ⟩ := h
  refine q_known B o hb rfl (fun _ => rfl) (fun _ => rfl) (fun _ _ => rfl) (fun hm => hQ.to (Ex.refl H) (kn_no hm)) fun hm ch H2 e2 hc => ?_
  refine (evp_callA (σ := [some (.ref b), some ch, some (.int (ix d : Nat)), none, none]) (R := fun H1 H2 v => ∃ p z, v = .ref p ∧ H2 p = some (.tup [.int (surB d (ix d) 10 : Nat), z]) ∧ FrV K H2 z (cq d (ix d) (surB d (ix d) 10))) (ea_cons (ev_var rfl) (ea_cons (ev_var rfl) ea_nil)) fun H3 e3 Q3 k3 E3 => ⟨rfl, _, d, ix d, rfl, o, hc.mono e3, ix_lt hm, fun p z H4 hp e4 hx hz => k3 _ H4 e4 ⟨p, z, rfl, hx, hz⟩⟩) H2 (Ex.refl H2) _ fun v H3 e3 ⟨H0, e0, p, z, hv, hp, hz⟩ => ?_
  refine ⟨p, _, hv, st_of hp, rfl, _, _, rfl, _, _, rfl, rfl, ?_⟩
  refine s_retI (xs := (surB d (ix d) 10 : Int) :: frI (cq d (ix d) (surB d (ix d) 10))) (el_catLL (el_lst (ea_cons (ev_var rfl) ea_nil) (by show 1 ≤ 100000; decide)) (el_listF (EvP.imp (evp_ev (ev_var rfl)) fun H4 H5 u e4 e5 hu => by subst hu; exact hz.mono (e4.trans e5))) (by show 3 ≤ 100000; decide)) (hQ.to (e2.trans e3) (kn_yes hm))
def sp_ifnext_told (K : PySem.W.Frag) (C : Addr) : Sp := fun vs H Q _ => vs.length = 2 ∧ ∃ (b : Addr) (d : Desk) (a : Nat), vs = [.ref b, .int a] ∧ CN.DeskOk d ∧ BkQ C H b d ∧ NewI H (if 9 < a then [-22] else kn d (if fromTo d (now d) a = 0 then [-6] else frI ((CN.xsol d 10 (gAw d)).getD (nxt d (ix d) a) 0))) Q
theorem chq_zero {d : Desk} (o : CN.DeskOk d) {i a : Nat} (hi : i < nst d) : chq d i a = 0 ↔ wt d i a = 0 := by
  constructor
  · intro h
    by_cases c : wt d i a = 0
    · exact c
    · have tp := CN.tot_pos o hi
      unfold chq at h
      have := (Rat.mkRat_eq_zero (by omega : tot d i ≠ 0)).mp h
      omega
  · intro h
    by_cases c : chq d i a = 0
    · exact c
    · have := chq_ne c
      omega
theorem sc_ifnext_told : FnScope ["book", "act", "chain", "place"] ["book", "act"] (defScope (top 70)) := ⟨rfl, rfl, rfl, by decide +kernel, rfl, by decide +kernel, by decide +kernel⟩
theorem cal_ifnext_told {P : Program} {w : World} {K : PySem.W.Frag} {mg : Str → Option Value} {base : Heap} {C : Addr} (B : BkT K mg C) (g : Glo K mg "ifnext_told" (top 70)) (T : Txt K mg) (c_awaited : Cal P w K mg base 6 "awaited" (sp_awaited K)) (c_chain_in : Cal P w K mg base 3 "chain_in" (sp_chain_in K C)) (c_chance : Cal P w K mg base 3 "chance" (sp_chance K)) (c_place_behind : Cal P w K mg base 2 "place_behind" (sp_place_behind K)) (c_place_in : Cal P w K mg base 2 "place_in" (sp_place_in K)) : Cal P w K mg base 7 "ifnext_told" (sp_ifnext_told K C) := by
  refine cal_by g sc_ifnext_told (fun _ _ _ _ _ _ us hl => match us, hl with | [_, _], _ => rfl) (fun vs H Q E h => h.1) fun f cdv A outer s H vs Q E hr h => ?_
  have nd := sc_ifnext_told.nd
  obtain ⟨aNOTHING, hNOTHING, qNOTHING⟩ := T.NOTHING
  refine ⟨_, (pss_cons (ps_if (pt_cmpR op_gt (pv 1) (C8.pe_gc rfl T.MOST_ACT) (nomark _)) (pss_one (ps_ret (pe_lst (pa_cons (C8.pe_gc rfl T.NOT_AS_TOLD) pa_nil)))) pss_nil)
      (pss_cons (ps_set (i := 2) nd rfl (Or.inl rfl) (C8.pe_c c_chain_in hr (by decide) rfl (pa_cons (pv 0) pa_nil)))
      (pss_cons (ps_set (i := 3) nd rfl (Or.inl rfl) (C8.pe_c c_place_in hr (by decide) rfl (pa_cons (pv 2) (pa_cons (pe_fld (pv 0) rfl) pa_nil))))
      (pss_cons (ps_if (pt_cmpR op_isN (pv 3) pe_non (nomark _)) (pss_one (ps_ret (pe_lst (pa_cons (C8.pe_gc rfl T.NOT_KNOWN) pa_nil)))) pss_nil)
      (pss_cons (ps_if (pt_cmpR (op_eqD hr.units) (C8.pe_c c_chance hr (by decide) rfl (pa_cons (pv 2) (pa_cons (pv 3) (pa_cons (pv 1) pa_nil)))) (C8.pe_gc rfl hNOTHING) (nomark _)) (pss_one (ps_ret (pe_lst (pa_cons (C8.pe_gc rfl T.NONE_LEFT) pa_nil)))) pss_nil)
      (pss_one (ps_ret (pe_callTy call_list_of (by rfl) T.list (by decide +kernel) (pa_cons (C8.pe_c c_awaited hr (by decide) rfl (pa_cons (pv 2) (pa_cons (C8.pe_c c_place_behind hr (by decide) rfl (pa_cons (pv 2) (pa_cons (pv 3) (pa_cons (pv 1) pa_nil)))) pa_nil))) pa_nil))))))))), ?_⟩
  obtain ⟨_, b, d, a, rfl, o, hb, hQ⟩ := h
  refine q_refuse (ev_var rfl) (ev_c (v := .int ((9 : Nat) : Int))) (fun hy => hQ.to (Ex.refl H) (if_pos hy)) fun hn H1 e1 => ?_
  rw [if_neg hn] at hQ
  refine q_known B o (hb.mono e1) rfl (fun _ => rfl) (fun _ => rfl) (fun _ _ => rfl) (fun hm => hQ.to e1 (kn_no hm)) fun hm ch H2 e2 hc => ?_
  have hi := ix_lt hm
  have ew : wt d (ix d) a = fromTo d (now d) a := by
    unfold wt
    rw [st_ix hm]
  have eT : EvT (tTest (tOp (rEqD K) (tCall (sp_chance K) [] C8.E0 (tCons (tVar 2) (tCons (tVar 3) (tCons (tVar 1) tNil)))) (tC (.ref aNOTHING)))) [some (.ref b), some (.int a), some ch, some (.int (ix d : Nat))] H2 (decide (chq d (ix d) a = 0)) := fun H3 e3 Q3 k3 =>
    (evp_chance o hc hi (by omega) (ev_var rfl) (ev_var rfl) (ev_var rfl)) H3 e3 _ fun v H4 e4 hv => (ev_c (σ := [some (.ref b), some (.int a), some ch, some (.int (ix d : Nat))])) H4 (Ex.refl H4) _ fun H6 e6 => (rv_eqF (hv.mono e6) qNOTHING) H6 (Ex.refl H6) _ fun H5 e5 => ⟨_, rfl, k3 H5 ((e4.trans e6).trans e5)⟩
  refine q_when eT (fun hbb H3 e3 => ?_) (fun hbb H3 e3 => ?_)
  · have z := (chq_zero o hi).mp (of_decide_eq_true hbb)
    rw [ew] at z
    refine s_retI (xs := [-6]) (el_lst (ea_cons ev_c ea_nil) (by show 1 ≤ 100000; decide)) (hQ.to ((e1.trans e2).trans e3) ?_)
    rw [kn_yes hm, if_pos z]
  · have z : ¬ wt d (ix d) a = 0 := fun q => (of_decide_eq_false hbb) ((chq_zero o hi).mpr q)
    have hw : 0 < wt d (ix d) a := by omega
    have nl := CN.nxt_lt o (by omega : a < 10) hw
    refine s_retI (xs := frI ((CN.xsol d 10 (gAw d)).getD (nxt d (ix d) a) 0)) (el_listF (evp_awaited o (hc.mono e3) nl (ev_var rfl) (ev_callV (ea_cons (ev_var rfl) (ea_cons (ev_var rfl) (ea_cons (ev_var rfl) ea_nil))) fun H6 e6 Q6 k6 E6 => ⟨rfl, _, d, ix d, a, rfl, o, hc.mono (e3.trans e6), hi, fun H7 e7 => by
      rw [place_next o (by omega) hw]
      exact k6 H7 e7⟩))) (hQ.to ((e1.trans e2).trans e3) ?_)
    rw [kn_yes hm, if_neg (by rw [← ew]; exact z)]
/-- if len(book.cases) == 0: return [NOT_KNOWN] -/
theorem q_nocase {K : PySem.W.Frag} {mg : Str → Option Value} {C : Addr} {σ : L2.St} {H : Hp} {D : Ends} {tz : TS} {b : Addr} {d : Desk} (B : BkT K mg C) (hb : BkQ C H b d) (h0 : σ[0]? = some (some (.ref b))) (hy : d.cases = [] → NewI H [-33] D.rt) (hn : d.cases ≠ [] → ∀ H1, Ex H H1 → tz D σ H1) :
    tSeq (tIfS (tTest (tOp rEq (tCB (fun xs H Q => ∃ p ys, xs = [.ref p] ∧ (SqL K H p ys ∨ SqT K H p ys) ∧ Q (.int ys.length) H) (tCons (tFld K (tVar 0) "cases") tNil)) (tC (.int 0)))) (tRet (tLst (tCons (tC (.int (-33))) tNil))) tNext) tz D σ H := by
  obtain ⟨dx, cl, rl, hb, ⟨a, vs, ha, hv, hl, hr⟩, hrw⟩ := hb
  have ha := V.ref.inj ha
  subst ha
  refine q_when (et_eqI (ev_len (ev_fld (ev_var h0) hb B.cl B.nc bF_cases) (sq_of hv)) ev_c) (fun hbb H1 e1 => ?_) (fun hbb H1 e1 => ?_)
  · have z := of_decide_eq_true hbb
    rw [hl] at z
    have : d.cases = [] := List.eq_nil_of_length_eq_zero (by omega)
    exact s_retI (xs := [-33]) (el_lst (ea_cons ev_c ea_nil) (by show 1 ≤ 100000; decide)) ((hy this).to e1 rfl)
  · have z := of_decide_eq_false hbb
    rw [hl] at z
    refine hn (fun q => z ?_) H1 e1
    rw [q]
    rfl
def kc (d : Desk) (a : List Int) : List Int := if d.cases = [] then [-33] else a
def sp_rowchance_told (K : PySem.W.Frag) (C : Addr) : Sp := fun vs H Q _ => vs.length = 1 ∧ ∃ (b : Addr) (d : Desk), vs = [.ref b] ∧ CN.DeskOk d ∧ BkQ C H b d ∧ NewI H (kc d (frI (bgK d d.row d.row.length))) Q
theorem ev_rowf {K : PySem.W.Frag} {mg : Str → Option Value} {C : Addr} {σ : L2.St} {H : Hp} {b : Addr} {d : Desk} {ta : TE} (B : BkT K mg C) (hb : BkQ C H b d) (e : Ev ta σ H (.ref b)) : ∃ rl, Ev (tFld K ta "row") σ H (.ref rl) ∧ LI H (.ref rl) (n2i d.row) := by
  obtain ⟨dx, cl, rl, hb, hcs, hrw⟩ := hb
  exact ⟨rl, ev_fld e hb B.cl B.nr bF_row, hrw⟩
theorem sc_rowchance_told : FnScope ["book"] ["book"] (defScope (top 71)) := ⟨rfl, rfl, rfl, by decide +kernel, rfl, by decide +kernel, by decide +kernel⟩
theorem cal_rowchance_told {P : Program} {w : World} {K : PySem.W.Frag} {mg : Str → Option Value} {base : Heap} {C : Addr} (B : BkT K mg C) (g : Glo K mg "rowchance_told" (top 71)) (T : Txt K mg) (c_beginning : Cal P w K mg base 4 "beginning" (sp_beginning K)) (c_chain_in : Cal P w K mg base 3 "chain_in" (sp_chain_in K C)) : Cal P w K mg base 5 "rowchance_told" (sp_rowchance_told K C) := by
  refine cal_by g sc_rowchance_told (fun _ _ _ _ _ _ us hl => match us, hl with | [_], _ => rfl) (fun vs H Q E h => h.1) fun f cdv A outer s H vs Q E hr h => ?_
  have nd := sc_rowchance_told.nd
  refine ⟨_, (pss_cons (ps_if (pt_cmpR op_eq (pe_callB call_len_seq (by rfl) T.len PySem.boot_len (pa_cons (pe_fld (pv 0) rfl) pa_nil)) pe_int (nomark _)) (pss_one (ps_ret (pe_lst (pa_cons (C8.pe_gc rfl T.NOT_KNOWN) pa_nil)))) pss_nil)
      (pss_one (ps_ret (pe_callTy call_list_of (by rfl) T.list (by decide +kernel) (pa_cons (C8.pe_c c_beginning hr (by decide) rfl (pa_cons (C8.pe_c c_chain_in hr (by decide) rfl (pa_cons (pv 0) pa_nil)) (pa_cons (pe_fld (pv 0) rfl) pa_nil))) pa_nil))))), ?_⟩
  obtain ⟨_, b, d, rfl, o, hb, hQ⟩ := h
  refine q_nocase B hb rfl (fun z => hQ.to (Ex.refl H) (if_pos z)) fun hne H1 e1 => ?_
  have e0 : kc d (frI (bgK d d.row d.row.length)) = frI (bgK d d.row d.row.length) := if_neg hne
  rw [e0] at hQ
  refine s_retI (xs := frI (bgK d d.row d.row.length)) (el_listF (evp_call (eap_cons (U := fun _ H2 vs => ∃ ch rl, vs = [ch, .ref rl] ∧ ChainV H2 ch d ∧ LI H2 (.ref rl) (n2i d.row)) (evp_chain_in o (hb.mono e1) (ev_var rfl)) fun ch H2 H3 e2 e3 hc => ?_) fun vs H2 H3 e2 e3 ⟨ch, rl, hvs, hc, hrl⟩ H4 e4 Q4 k4 E4 => ?_)) (hQ.to e1 rfl)
  · obtain ⟨rl, ev, hli⟩ := ev_rowf (ta := tVar 0) (σ := [some (.ref b)]) B (hb.mono ((e1.trans e2).trans e3)) (ev_var rfl)
    intro H4 e4 Q4 k4
    exact (ea_cons ev ea_nil) H4 e4 _ fun H5 e5 => k4 _ H5 e5 fun _ => ⟨ch, rl, rfl, hc.mono (e4.trans e5), hli.mono (e4.trans e5)⟩
  · subst hvs
    exact ⟨rfl, _, _, d, d.row, rfl, o, hc.mono e4, hne, hrl.mono e4, o.rlen, o.ract, fun x H5 e5 hx => k4 _ H5 e5 hx⟩
def sp_wholechance_told (K : PySem.W.Frag) (C : Addr) : Sp := fun vs H Q _ => vs.length = 1 ∧ ∃ (b : Addr) (d : Desk), vs = [.ref b] ∧ CN.DeskOk d ∧ BkQ C H b d ∧ NewI H (kc d (frI (whQ d d.row))) Q
theorem sc_wholechance_told : FnScope ["book"] ["book"] (defScope (top 72)) := ⟨rfl, rfl, rfl, by decide +kernel, rfl, by decide +kernel, by decide +kernel⟩
theorem cal_wholechance_told {P : Program} {w : World} {K : PySem.W.Frag} {mg : Str → Option Value} {base : Heap} {C : Addr} (B : BkT K mg C) (g : Glo K mg "wholechance_told" (top 72)) (T : Txt K mg) (c_chain_in : Cal P w K mg base 3 "chain_in" (sp_chain_in K C)) (c_whole : Cal P w K mg base 5 "whole" (sp_whole K)) : Cal P w K mg base 6 "wholechance_told" (sp_wholechance_told K C) := by
  refine cal_by g sc_wholechance_told (fun _ _ _ _ _ _ us hl => match us, hl with | [_], _ => rfl) (fun vs H Q E h => h.1) fun f cdv A outer s H vs Q E hr h => ?_
  have nd := sc_wholechance_told.nd
  refine ⟨_, (pss_cons (ps_if (pt_cmpR op_eq (pe_callB call_len_seq (by rfl) T.len PySem.boot_len (pa_cons (pe_fld (pv 0) rfl) pa_nil)) pe_int (nomark _)) (pss_one (ps_ret (pe_lst (pa_cons (C8.pe_gc rfl T.NOT_KNOWN) pa_nil)))) pss_nil)
      (pss_one (ps_ret (pe_callTy call_list_of (by rfl) T.list (by decide +kernel) (pa_cons (C8.pe_c c_whole hr (by decide) rfl (pa_cons (C8.pe_c c_chain_in hr (by decide) rfl (pa_cons (pv 0) pa_nil)) (pa_cons (pe_fld (pv 0) rfl) pa_nil))) pa_nil))))), ?_⟩
  obtain ⟨_, b, d, rfl, o, hb, hQ⟩ := h
  refine q_nocase B hb rfl (fun z => hQ.to (Ex.refl H) (if_pos z)) fun hne H1 e1 => ?_
  have e0 : kc d (frI (whQ d d.row)) = frI (whQ d d.row) := if_neg hne
  rw [e0] at hQ
  refine s_retI (xs := frI (whQ d d.row)) (el_listF (evp_call (eap_cons (U := fun _ H2 vs => ∃ ch rl, vs = [ch, .ref rl] ∧ ChainV H2 ch d ∧ LI H2 (.ref rl) (n2i d.row)) (evp_chain_in o (hb.mono e1) (ev_var rfl)) fun ch H2 H3 e2 e3 hc => ?_) fun vs H2 H3 e2 e3 ⟨ch, rl, hvs, hc, hrl⟩ H4 e4 Q4 k4 E4 => ?_)) (hQ.to e1 rfl)
  · obtain ⟨rl, ev, hli⟩ := ev_rowf (ta := tVar 0) (σ := [some (.ref b)]) B (hb.mono ((e1.trans e2).trans e3)) (ev_var rfl)
    intro H4 e4 Q4 k4
    exact (ea_cons ev ea_nil) H4 e4 _ fun H5 e5 => k4 _ H5 e5 fun _ => ⟨ch, rl, rfl, hc.mono (e4.trans e5), hli.mono (e4.trans e5)⟩
  · subst hvs
    exact ⟨rfl, _, _, d, d.row, rfl, o, hc.mono e4, hne, hrl.mono e4, o.rlen, o.ract, fun x H5 e5 hx => k4 _ H5 e5 hx⟩
def ix0 (d : Desk) : Nat := (states d).findIdx fun t => t == []
def sp_frombegin_told (K : PySem.W.Frag) (C : Addr) : Sp := fun vs H Q _ => vs.length = 1 ∧ ∃ (b : Addr) (d : Desk), vs = [.ref b] ∧ CN.DeskOk d ∧ BkQ C H b d ∧ NewI H (kc d (frI ((CN.xsol d 10 (gAw d)).getD (ix0 d) 0))) Q
theorem sc_frombegin_told : FnScope ["book", "chain"] ["book"] (defScope (top 73)) := ⟨rfl, rfl, rfl, by decide +kernel, rfl, by decide +kernel, by decide +kernel⟩
theorem cal_frombegin_told {P : Program} {w : World} {K : PySem.W.Frag} {mg : Str → Option Value} {base : Heap} {C : Addr} (B : BkT K mg C) (g : Glo K mg "frombegin_told" (top 73)) (T : Txt K mg) (c_awaited : Cal P w K mg base 6 "awaited" (sp_awaited K)) (c_chain_in : Cal P w K mg base 3 "chain_in" (sp_chain_in K C)) (c_place_in : Cal P w K mg base 2 "place_in" (sp_place_in K)) : Cal P w K mg base 7 "frombegin_told" (sp_frombegin_told K C) := by
  refine cal_by g sc_frombegin_told (fun _ _ _ _ _ _ us hl => match us, hl with | [_], _ => rfl) (fun vs H Q E h => h.1) fun f cdv A outer s H vs Q E hr h => ?_
  have nd := sc_frombegin_told.nd
  refine ⟨_, (pss_cons (ps_if (pt_cmpR op_eq (pe_callB call_len_seq (by rfl) T.len PySem.boot_len (pa_cons (pe_fld (pv 0) rfl) pa_nil)) pe_int (nomark _)) (pss_one (ps_ret (pe_lst (pa_cons (C8.pe_gc rfl T.NOT_KNOWN) pa_nil)))) pss_nil)
      (pss_cons (ps_set (i := 1) nd rfl (Or.inl rfl) (C8.pe_c c_chain_in hr (by decide) rfl (pa_cons (pv 0) pa_nil)))
      (pss_one (ps_ret (pe_callTy call_list_of (by rfl) T.list (by decide +kernel) (pa_cons (C8.pe_c c_awaited hr (by decide) rfl (pa_cons (pv 1) (pa_cons (C8.pe_c c_place_in hr (by decide) rfl (pa_cons (pv 1) (pa_cons (pe_lst pa_nil) pa_nil))) pa_nil))) pa_nil)))))), ?_⟩
  obtain ⟨_, b, d, rfl, o, hb, hQ⟩ := h
  refine q_nocase B hb rfl (fun z => hQ.to (Ex.refl H) (if_pos z)) fun hne H1 e1 => ?_
  have e0 : kc d (frI ((CN.xsol d 10 (gAw d)).getD (ix0 d) 0)) = frI ((CN.xsol d 10 (gAw d)).getD (ix0 d) 0) := if_neg hne
  rw [e0] at hQ
  refine q_asgP (evp_chain_in o (hb.mono e1) (ev_var rfl)) fun ch H2 e2 hc => ?_
  have mem := CN.nil_mem hne
  refine s_retI (xs := frI ((CN.xsol d 10 (gAw d)).getD (ix0 d) 0)) (el_listF (evp_awaited o hc (CN.find_lt mem) (ev_var rfl) (by
    have q := ev_place_in (K := K) (E := C8.E0) (s := []) (ta := tVar 1) (tb := tLst tNil) (σ := [some (.ref b), some ch]) o hc (ev_var rfl) (EvP.imp (evp_evL (el_lst ea_nil (by decide))) fun H5 H6 u e5 e6 ⟨r, hu, _, hr⟩ => ⟨r, hu, hr⟩)
    rw [CN.mind_nil, placeOf_mem mem] at q
    exact q))) (hQ.to (e1.trans e2) rfl)
end CW
/-! The object and what is told to it. -/
namespace CW
open PySem PySem.Spec PyProof.Rows L2 Evl
open Km522 (n2i mind Desk Case END states onTo from_ fromTo now)
open CN (Stp thg tab trow stepsOf nst wt tot nxt)

theorem pe_mk0 {X : Cx} {k j : Nat} {C : Addr} {x : Str} {sp : Sp} {dvs : List V} {p pos : Pos} (c : C8.Mak X.prog X.w X.K X.mg X.base k x C sp dvs) (hr : Room j X.A) (hk : k + 1 ≤ j) (hg : Gl X x)
    (hdb : (x == ("__debug__" : Str)) = false := by decide) : PE X (.Call (.Name x p) [] [] pos) (tMake C sp dvs C8.E0 tNil) := by
  obtain ⟨f, fd, ps, ds, M, F, hm, b, d⟩ := c.ex
  exact pe_make0 M F (hr.mono hk) hg hm b d C8.pass0 hdb

/-! ### the object in the heap -/
/-- what others hold stands -/
def AvS (Av : Addr → Prop) (H H' : Hp) : Prop := ∀ x o, Av x → H x = some o → H' x = some o
theorem AvS.refl {Av : Addr → Prop} {H : Hp} : AvS Av H H := fun _ _ _ h => h
theorem AvS.trans {Av : Addr → Prop} {H H1 H2 : Hp} (a : AvS Av H H1) (b : AvS Av H1 H2) : AvS Av H H2 := fun x o v h => b x o v (a x o v h)
theorem AvS.ex {Av : Addr → Prop} {H H1 : Hp} (e : Ex H H1) : AvS Av H H1 := fun x o _ h => e x o h
/-- a case, apart from the object's lists -/
def CsA (H : Hp) (cl rl : Addr) (Av : Addr → Prop) (v : V) (c : Case) : Prop := ∃ t r, v = .ref t ∧ H t = some (.tup [.ref r, .int (c.2 : Nat)]) ∧ H r = some (.lst ((n2i c.1).map V.int)) ∧ ¬ Av t ∧ ¬ Av r ∧ r ≠ cl ∧ r ≠ rl
structure BkP (C : Addr) (H : Hp) (b dx cl rl : Addr) (vs : List V) (d : Desk) (Av : Addr → Prop) : Prop where
  hb : H b = some (.ins C dx (bF true cl rl d.memory))
  hc : H cl = some (.lst vs)
  hr : H rl = some (.lst ((n2i d.row).map V.int))
  ct : All2 (CsA H cl rl Av) vs d.cases
  ne : cl ≠ rl
  ab : ¬ Av b
  ac : ¬ Av cl
  ar : ¬ Av rl
  av : ∀ x, Av x → H x ≠ none
def Bk (C : Addr) (H : Hp) (b : Addr) (d : Desk) (Av : Addr → Prop) : Prop := ∃ dx cl rl vs, BkP C H b dx cl rl vs d Av
/-- what a command promises -/
def Cmd (C : Addr) (H : Hp) (b : Addr) (d : Desk) (Av : Addr → Prop) (ans : List Int) (Q : VK) : Prop := ∀ p H', Bk C H' b d Av → AvS Av H H' → ¬ Av p → H' p = some (.lst (ans.map V.int)) → Q (.ref p) H'
section
variable {C : Addr} {H H' : Hp} {b dx cl rl : Addr} {vs : List V} {d : Desk} {Av : Addr → Prop}
theorem BkP.b_ne_c (k : BkP C H b dx cl rl vs d Av) : b ≠ cl := fun z => by
  have h := k.hb
  rw [z, k.hc] at h
  cases h
theorem BkP.b_ne_r (k : BkP C H b dx cl rl vs d Av) : b ≠ rl := fun z => by
  have h := k.hb
  rw [z, k.hr] at h
  cases h
theorem CsA.mono {v : V} {c : Case} (e : Ex H H') (h : CsA H cl rl Av v c) : CsA H' cl rl Av v c :=
  let ⟨t, r, h1, h2, h3, h4⟩ := h; ⟨t, r, h1, e _ _ h2, e _ _ h3, h4⟩
theorem BkP.mono (k : BkP C H b dx cl rl vs d Av) (e : Ex H H') : BkP C H' b dx cl rl vs d Av where
  hb := e _ _ k.hb
  hc := e _ _ k.hc
  hr := e _ _ k.hr
  ct := ⟨k.ct.1, fun i v c h1 h2 => (k.ct.2 i v c h1 h2).mono e⟩
  ne := k.ne
  ab := k.ab
  ac := k.ac
  ar := k.ar
  av := fun x hx => by
    cases h : H x with
    | none => exact absurd h (k.av x hx)
    | some o =>
      rw [e _ _ h]
      exact fun z => nomatch z
theorem BkP.toQ (k : BkP C H b dx cl rl vs d Av) : BkQ C H b d :=
  ⟨dx, cl, rl, k.hb, ⟨cl, vs, rfl, k.hc, k.ct.1, fun i v c h1 h2 => let ⟨t, r, h3, h4, h5, _⟩ := k.ct.2 i v c h1 h2; ⟨t, r, h3, h4, h5⟩⟩, ⟨rl, rfl, k.hr⟩⟩
theorem Bk.toQ (k : Bk C H b d Av) : BkQ C H b d := let ⟨_, _, _, _, k⟩ := k; k.toQ
/-- the object behind a step -/
theorem BkP.next (k : BkP C H b dx cl rl vs d Av) {rl' : Addr} {vs' : List V} {d' : Desk} (hb : H' b = some (.ins C dx (bF true cl rl' d'.memory))) (hc : H' cl = some (.lst vs')) (hr : H' rl' = some (.lst ((n2i d'.row).map V.int)))
    (fr : ∀ x o, H x = some o → x ≠ b → x ≠ cl → x ≠ rl → H' x = some o) (hrl : rl' = rl ∨ H rl' = none) (hl : vs'.length = d'.cases.length)
    (ct : ∀ (i : Nat) v c, vs'[i]? = some v → d'.cases[i]? = some c → CsA H cl rl Av v c ∨ CsA H' cl rl' Av v c) : Bk C H' b d' Av ∧ AvS Av H H' := by
  have as : AvS Av H H' := fun x o hx h => fr x o h (fun z => k.ab (z ▸ hx)) (fun z => k.ac (z ▸ hx)) (fun z => k.ar (z ▸ hx))
  refine ⟨⟨dx, cl, rl', vs', hb, hc, hr, ⟨hl, fun i v c h1 h2 => ?_⟩, ?_, k.ab, k.ac, ?_, fun x hx => ?_⟩, as⟩
  · rcases ct i v c h1 h2 with ⟨t, r, h3, h4, h5, h6, h7, h8, h9⟩ | q
    · refine ⟨t, r, h3, ?_, ?_, h6, h7, h8, ?_⟩
      · refine fr t _ h4 (fun z => ?_) (fun z => ?_) (fun z => ?_)
        · rw [z, k.hb] at h4
          cases h4
        · rw [z, k.hc] at h4
          cases h4
        · rw [z, k.hr] at h4
          cases h4
      · refine fr r _ h5 (fun z => ?_) h8 h9
        rw [z, k.hb] at h5
        cases h5
      · rcases hrl with z | z
        · rw [z]
          exact h9
        · intro q
          rw [q, z] at h5
          cases h5
    · exact q
  · rcases hrl with z | z
    · rw [z]
      exact k.ne
    · intro q
      have h := k.hc
      rw [q, z] at h
      cases h
  · rcases hrl with z | z
    · rw [z]
      exact k.ar
    · exact fun q => k.av _ q z
  · cases h : H x with
    | none => exact absurd h (k.av x hx)
    | some o =>
      rw [as x o hx h]
      exact fun z => nomatch z
theorem Cmd.new {H1 : Hp} {ans : List Int} {Q : VK} (k : Bk C H1 b d Av) (a : AvS Av H H1) (h : Cmd C H b d Av ans Q) : NewI H1 ans Q := fun p H2 hp e hx => by
  obtain ⟨dx, cl, rl, vs, k⟩ := k
  exact h p H2 ⟨dx, cl, rl, vs, k.mono e⟩ (a.trans (AvS.ex e)) (fun z => k.av p z hp) hx
theorem Cmd.is {ans ans' : List Int} {d' : Desk} {Q : VK} (h : Cmd C H b d Av ans Q) (e : ans = ans') (e2 : d = d') : Cmd C H b d' Av ans' Q := by
  subst e
  subst e2
  exact h
/-- behind a write elsewhere -/
theorem BkP.frame (k : BkP C H b dx cl rl vs d Av) (fr : ∀ x o, ¬ Av x → H x = some o → H' x = some o) (av : ∀ x, Av x → H' x ≠ none) : BkP C H' b dx cl rl vs d Av where
  hb := fr _ _ k.ab k.hb
  hc := fr _ _ k.ac k.hc
  hr := fr _ _ k.ar k.hr
  ct := ⟨k.ct.1, fun i v c h1 h2 => let ⟨t, r, h3, h4, h5, h6, h7, h8⟩ := k.ct.2 i v c h1 h2; ⟨t, r, h3, fr _ _ h6 h4, fr _ _ h7 h5, h6, h7, h8⟩⟩
  ne := k.ne
  ab := k.ab
  ac := k.ac
  ar := k.ar
  av := av
end

/-! ### readings: x.f = e, a method called -/
section
variable {K : PySem.W.Frag} {σ : L2.St} {H : Hp} {ta tv : TE} {D : Ends} {tz : TS} {a C dx : Addr} {fs : List (Str × V)} {f m : Str} {y : V}
theorem s_fld (hv : Ev tv σ H y) (ha : Ev ta σ H (.ref a)) (ho : H a = some (.ins C dx fs)) (hc : Cls K C) (hn : NoAttr K C f) (hl : fs.length < 1000) (k : ∀ H1, Ex H H1 → D.nx σ (upd H1 a (.ins C dx (putF f y fs)))) : sFld K ta tv f D σ H :=
  hv H (Ex.refl H) _ fun H1 e1 => ha H1 e1 _ fun H2 e2 => ⟨a, C, dx, fs, rfl, (e1.trans e2) _ _ ho, hc, hn, hl, k H2 (e1.trans e2)⟩
theorem q_fld (hv : Ev tv σ H y) (ha : Ev ta σ H (.ref a)) (ho : H a = some (.ins C dx fs)) (hc : Cls K C) (hn : NoAttr K C f) (hl : fs.length < 1000) (k : ∀ H1, Ex H H1 → tz D σ (upd H1 a (.ins C dx (putF f y fs)))) : tSeq (sFld K ta tv f) tz D σ H := s_fld (D := { D with nx := tz D }) hv ha ho hc hn hl k
theorem s_fldL {xs : List V} (hv : EvL tv σ H xs) (ha : Ev ta σ H (.ref a)) (ho : H a = some (.ins C dx fs)) (hc : Cls K C) (hn : NoAttr K C f) (hl : fs.length < 1000) (k : ∀ p H1, H p = none → Ex H H1 → H1 p = some (.lst xs) → D.nx σ (upd H1 a (.ins C dx (putF f (.ref p) fs)))) : sFld K ta tv f D σ H :=
  hv H (Ex.refl H) _ fun p H1 hp e1 hx => ha H1 e1 _ fun H2 e2 => ⟨a, C, dx, fs, rfl, (e1.trans e2) _ _ ho, hc, hn, hl, k p H2 hp (e1.trans e2) (e2 _ _ hx)⟩
theorem q_fldL {xs : List V} (hv : EvL tv σ H xs) (ha : Ev ta σ H (.ref a)) (ho : H a = some (.ins C dx fs)) (hc : Cls K C) (hn : NoAttr K C f) (hl : fs.length < 1000) (k : ∀ p H1, H p = none → Ex H H1 → H1 p = some (.lst xs) → tz D σ (upd H1 a (.ins C dx (putF f (.ref p) fs)))) : tSeq (sFld K ta tv f) tz D σ H := s_fldL (D := { D with nx := tz D }) hv ha ho hc hn hl k
theorem s_meth {sp : Sp} {E : XK} {t : TA} {vs : List V} (ha : Ev ta σ H (.ref a)) (ho : H a = some (.ins C dx fs)) (hl : fs.lookup m = none) (h : EvA t σ H vs) (k : ∀ H1, Ex H H1 → sp (.ref a :: vs) H1 (fun _ H2 => D.nx σ H2) E) : tDrop (tMeth C m sp [] E ta t) D σ H :=
  ha H (Ex.refl H) _ fun H1 e1 => ⟨a, dx, fs, rfl, e1 _ _ ho, hl, h H1 e1 _ fun H2 e2 => by
    rw [List.append_nil]
    exact k H2 (e1.trans e2)⟩
theorem q_meth {sp : Sp} {E : XK} {t : TA} {vs : List V} (ha : Ev ta σ H (.ref a)) (ho : H a = some (.ins C dx fs)) (hl : fs.lookup m = none) (h : EvA t σ H vs) (k : ∀ H1, Ex H H1 → sp (.ref a :: vs) H1 (fun _ H2 => tz D σ H2) E) : tSeq (tDrop (tMeth C m sp [] E ta t)) tz D σ H := s_meth (D := { D with nx := tz D }) ha ho hl h k
end

/-! ### the methods -/
def sp_Book___init__ (K : PySem.W.Frag) (C : Addr) : Sp := fun vs H Q _ => vs.length = 1 ∧ ∃ (b dx : Addr), vs = [.ref b] ∧ H b = some (.ins C dx []) ∧ ∀ H' cl rl, (∀ x o, H x = some o → x ≠ b → H' x = some o) → H' b = some (.ins C dx (bF false cl rl 1)) → Q .non H'
theorem upd_ex {H H1 : Hp} {b : Addr} {o u : HO} {x : Addr} (e : Ex H H1) (h : H x = some u) (hx : x ≠ b) : upd H1 b o x = some u := by
  rw [upd_ne hx]
  exact e _ _ h
theorem sc_Book___init__ : FnScope ["self"] ["self"] (defScope (inClass (top 10) 0)) := ⟨rfl, rfl, rfl, by decide +kernel, rfl, by decide +kernel, by decide +kernel⟩
theorem mak_Book {P : Program} {w : World} {K : PySem.W.Frag} {mg : Str → Option Value} {base : Heap} {C : Addr} (B : BkT K mg C) (T : Txt K mg) : C8.Mak P w K mg base 1 "Book" C (sp_Book___init__ K C) [] := by
  refine mak_by B sc_Book___init__ (fun _ _ _ _ _ _ us hl => match us, hl with | [_], _ => rfl) (fun vs H Q E h => h.1) fun f cdv A outer s H vs Q E hr h => ?_
  have nd := sc_Book___init__.nd
  refine ⟨_, (pss_cons (ps_fld (pv 0) pe_bl rfl)
      (pss_cons (ps_fld (pv 0) (pe_lst pa_nil) rfl)
      (pss_cons (ps_fld (pv 0) (pe_lst pa_nil) rfl)
      (pss_one (ps_fld (pv 0) pe_int rfl))))), ?_⟩
  obtain ⟨_, b, dx, rfl, hb, hQ⟩ := h
  refine q_fld (ev_c (v := .bl false)) (ev_var rfl) hb B.cl B.nb (by show 0 < 1000; decide) fun H1 e1 => ?_
  refine q_fldL (el_lst ea_nil (by show 0 ≤ 100000; decide)) (ev_var rfl) upd_same B.cl B.nc (by show 1 < 1000; decide) fun cl H2 hp e2 hx => ?_
  refine q_fldL (el_lst ea_nil (by show 0 ≤ 100000; decide)) (ev_var rfl) upd_same B.cl B.nr (by show 2 < 1000; decide) fun rl H3 hp3 e3 hx3 => ?_
  refine s_fld (ev_c (v := .int ((1 : Nat) : Int))) (ev_var rfl) upd_same B.cl B.nm (by show 3 < 1000; decide) fun H4 e4 => ?_
  refine hQ _ cl rl (fun x o ho hxb => upd_ex e4 (upd_ex e3 (upd_ex e2 (upd_ex e1 ho hxb) hxb) hxb) hxb) ?_
  rw [upd_same]
  rfl
def sp_Book_restart (K : PySem.W.Frag) (C : Addr) : Sp := fun vs H Q _ => vs.length = 1 ∧ ∃ (b dx cl rl : Addr) (bg : Bool) (m : Nat) (Av : Addr → Prop), vs = [.ref b] ∧ H b = some (.ins C dx (bF bg cl rl m)) ∧ ¬ Av b ∧ (∀ x, Av x → H x ≠ none) ∧ ∀ H', Bk C H' b ⟨[], [], 1⟩ Av → AvS Av H H' → Q .non H'
theorem sc_Book_restart : FnScope ["self"] ["self"] (defScope (inClass (top 10) 1)) := ⟨rfl, rfl, rfl, by decide +kernel, rfl, by decide +kernel, by decide +kernel⟩
theorem met_restart {P : Program} {w : World} {K : PySem.W.Frag} {mg : Str → Option Value} {base : Heap} {C : Addr} (B : BkT K mg C) (F : MetF K C "restart" "Book.restart" (inClass (top 10) 1)) (T : Txt K mg) : C8.Met P w K mg base 1 C "restart" (sp_Book_restart K C) [] := by
  refine met_by B.cl F sc_Book_restart (fun _ _ _ _ _ _ us hl => match us, hl with | [_], _ => rfl) (fun vs H Q E h => h.1) fun f cdv A outer s H vs Q E hr h => ?_
  have nd := sc_Book_restart.nd
  refine ⟨_, (pss_cons (ps_fld (pv 0) pe_bl rfl)
      (pss_cons (ps_fld (pv 0) (pe_lst pa_nil) rfl)
      (pss_cons (ps_fld (pv 0) (pe_lst pa_nil) rfl)
      (pss_one (ps_fld (pv 0) pe_int rfl))))), ?_⟩
  obtain ⟨_, b, dx, cl, rl, bg, m, Av, rfl, hb, ab, av, hQ⟩ := h
  refine q_fld (ev_c (v := .bl true)) (ev_var rfl) hb B.cl B.nb (by show 4 < 1000; decide) fun H1 e1 => ?_
  rw [put_begun]
  refine q_fldL (el_lst ea_nil (by show 0 ≤ 100000; decide)) (ev_var rfl) upd_same B.cl B.nc (by show 4 < 1000; decide) fun cl' H2 hp e2 hx => ?_
  rw [put_cases]
  refine q_fldL (el_lst ea_nil (by show 0 ≤ 100000; decide)) (ev_var rfl) upd_same B.cl B.nr (by show 4 < 1000; decide) fun rl' H3 hp3 e3 hx3 => ?_
  rw [put_row]
  refine s_fld (ev_c (v := .int ((1 : Nat) : Int))) (ev_var rfl) upd_same B.cl B.nm (by show 4 < 1000; decide) fun H4 e4 => ?_
  rw [put_memory]
  have nb2 : cl' ≠ b := fun z => by
    rw [z, upd_same] at hp
    cases hp
  have nb3 : rl' ≠ b := fun z => by
    rw [z, upd_same] at hp3
    cases hp3
  have fr : ∀ x o, H x = some o → x ≠ b → upd H4 b (.ins C dx (bF true cl' rl' 1)) x = some o := fun x o ho hxb => upd_ex e4 (upd_ex e3 (upd_ex e2 (upd_ex e1 ho hxb) hxb) hxb) hxb
  have n2 : H cl' = none := by
    cases h : H cl' with
    | none => rfl
    | some o =>
      rw [upd_ex e1 h nb2] at hp
      cases hp
  have n3 : H rl' = none := by
    cases h : H rl' with
    | none => rfl
    | some o =>
      rw [upd_ex e2 (upd_ex e1 h nb3) nb3] at hp3
      cases hp3
  refine hQ _ ⟨dx, cl', rl', [], upd_same, upd_ex e4 (upd_ex e3 (upd_ex (Ex.refl _) hx nb2) nb2) nb2, upd_ex e4 (upd_ex (Ex.refl _) hx3 nb3) nb3, ⟨rfl, fun i v c h => by cases h⟩, fun z => ?_, ab, fun z => av _ z n2, fun z => av _ z n3, fun x hx' => ?_⟩ (fun x o hx' ho => fr x o ho fun z => ab (z ▸ hx'))
  · rw [← z, upd_ne nb2, hx] at hp3
    cases hp3
  · cases h : H x with
    | none => exact absurd h (av x hx')
    | some o =>
      rw [fr x o h fun z => ab (z ▸ hx')]
      exact fun z => nomatch z
def sp_Book_note (K : PySem.W.Frag) (C : Addr) : Sp := fun vs H Q _ => vs.length = 2 ∧ ∃ (b dx cl rl t : Addr) (ws : List V) (d : Desk) (Av : Addr → Prop) (k : Nat), vs = [.ref b, .ref t] ∧ BkP C H b dx cl rl ws d Av ∧ H t = some (.tup [.ref rl, .int k]) ∧ ¬ Av t ∧ ws.length ≤ 1000 ∧ ∀ H', Bk C H' b ⟨d.cases ++ [(d.row, k)], [], d.memory⟩ Av → AvS Av H H' → Q .non H'
theorem sc_Book_note : FnScope ["self", "case"] ["self", "case"] (defScope (inClass (top 10) 2)) := ⟨rfl, rfl, rfl, by decide +kernel, rfl, by decide +kernel, by decide +kernel⟩
theorem met_note {P : Program} {w : World} {K : PySem.W.Frag} {mg : Str → Option Value} {base : Heap} {C : Addr} (B : BkT K mg C) (F : MetF K C "note" "Book.note" (inClass (top 10) 2)) (T : Txt K mg) : C8.Met P w K mg base 1 C "note" (sp_Book_note K C) [] := by
  refine met_by B.cl F sc_Book_note (fun _ _ _ _ _ _ us hl => match us, hl with | [_, _], _ => rfl) (fun vs H Q E h => h.1) fun f cdv A outer s H vs Q E hr h => ?_
  have nd := sc_Book_note.nd
  refine ⟨_, (pss_cons (ps_expr (pe_bm PySem.F.plainAttrs_list PySem.F.slot_list_append PySem.F.type_list_append mt_append (pe_fld (pv 0) rfl) (pa_cons (pv 1) pa_nil)))
      (pss_one (ps_fld (pv 0) (pe_lst pa_nil) rfl))), ?_⟩
  obtain ⟨_, b, dx, cl, rl, t, ws, d, Av, k, rfl, kb, ht, at', hl, hQ⟩ := h
  have nbc := kb.b_ne_c
  refine q_app kb.hc (ev_fld (ev_var rfl) kb.hb B.cl B.nc bF_cases) (ev_var rfl) (by omega) fun H1 e1 => ?_
  have hb1 : upd H1 cl (.lst (ws ++ [.ref t])) b = some (.ins C dx (bF true cl rl d.memory)) := upd_ex e1 kb.hb nbc
  refine s_fldL (el_lst ea_nil (by show 0 ≤ 100000; decide)) (ev_var rfl) hb1 B.cl B.nr (by show 4 < 1000; decide) fun rl' H2 hp e2 hx => ?_
  rw [put_row]
  have nb2 : rl' ≠ b := fun z => by
    rw [z, hb1] at hp
    cases hp
  have nc2 : rl' ≠ cl := fun z => by
    rw [z, upd_same] at hp
    cases hp
  have fr : ∀ x o, H x = some o → x ≠ b → x ≠ cl → upd H2 b (.ins C dx (bF true cl rl' d.memory)) x = some o := fun x o ho hxb hxc => upd_ex e2 (upd_ex e1 ho hxc) hxb
  have n2 : H rl' = none := by
    cases h : H rl' with
    | none => rfl
    | some o =>
      rw [upd_ex e1 h nc2] at hp
      cases hp
  have q := kb.next (H' := upd H2 b (.ins C dx (bF true cl rl' d.memory))) (rl' := rl') (vs' := ws ++ [.ref t]) (d' := ⟨d.cases ++ [(d.row, k)], [], d.memory⟩) upd_same (upd_ex e2 upd_same (Ne.symm nbc)) (upd_ex (Ex.refl H2) hx nb2) (fun x o ho h1 h2 h3 => fr x o ho h1 h2) (.inr n2)
    (by rw [List.length_append, List.length_append, kb.ct.1]; rfl) (fun i v c h1 h2 => by
      rcases getElem_snoc h1 with z | ⟨z1, z2⟩
      · refine .inl (kb.ct.2 i v c z ?_)
        have hi := (List.getElem?_eq_some_iff.mp z).1
        rw [kb.ct.1] at hi
        have h2 : (d.cases ++ [(d.row, k)])[i]? = some c := h2
        rw [List.getElem?_append_left hi] at h2
        exact h2
      · have h2 : (d.cases ++ [(d.row, k)])[i]? = some c := h2
        rw [z1, kb.ct.1, List.getElem?_append_right (Nat.le_refl _), Nat.sub_self] at h2
        have := Option.some.inj h2
        subst this
        refine .inr ⟨t, rl, z2, fr t _ ht (fun z => ?_) (fun z => ?_), fr rl _ kb.hr (Ne.symm kb.b_ne_r) (Ne.symm kb.ne), at', kb.ar, Ne.symm kb.ne, fun z => ?_⟩
        · rw [z, kb.hb] at ht
          cases ht
        · rw [z, kb.hc] at ht
          cases ht
        · have h := kb.hr
          rw [z, n2] at h
          cases h)
  exact hQ _ q.1 q.2
def sp_Book_renew (K : PySem.W.Frag) (C : Addr) : Sp := fun vs H Q _ => vs.length = 3 ∧ ∃ (b dx cl rl t : Addr) (ws : List V) (d : Desk) (Av : Addr → Prop) (i : Nat) (c : Case), vs = [.ref b, .int i, .ref t] ∧ BkP C H b dx cl rl ws d Av ∧ i < d.cases.length ∧ CsA H cl rl Av (.ref t) c ∧ ∀ H', Bk C H' b ⟨d.cases.set i c, [], d.memory⟩ Av → AvS Av H H' → Q .non H'
theorem sc_Book_renew : FnScope ["self", "number", "case"] ["self", "number", "case"] (defScope (inClass (top 10) 3)) := ⟨rfl, rfl, rfl, by decide +kernel, rfl, by decide +kernel, by decide +kernel⟩
theorem met_renew {P : Program} {w : World} {K : PySem.W.Frag} {mg : Str → Option Value} {base : Heap} {C : Addr} (B : BkT K mg C) (F : MetF K C "renew" "Book.renew" (inClass (top 10) 3)) (T : Txt K mg) : C8.Met P w K mg base 1 C "renew" (sp_Book_renew K C) [] := by
  refine met_by B.cl F sc_Book_renew (fun _ _ _ _ _ _ us hl => match us, hl with | [_, _, _], _ => rfl) (fun vs H Q E h => h.1) fun f cdv A outer s H vs Q E hr h => ?_
  have nd := sc_Book_renew.nd
  refine ⟨_, (pss_cons (ps_asg (pv 2) (pg_sub (pe_fld (pv 0) rfl) (pv 1) set_list))
      (pss_one (ps_fld (pv 0) (pe_lst pa_nil) rfl))), ?_⟩
  obtain ⟨_, b, dx, cl, rl, t, ws, d, Av, i, c, rfl, kb, hi, hct, hQ⟩ := h
  have nbc := kb.b_ne_c
  refine q_setL kb.hc (ev_var rfl) (ev_fld (ev_var rfl) kb.hb B.cl B.nc bF_cases) (ev_var rfl) (by rw [kb.ct.1]; exact hi) fun H1 e1 => ?_
  have hb1 : upd H1 cl (.lst (ws.set i (.ref t))) b = some (.ins C dx (bF true cl rl d.memory)) := upd_ex e1 kb.hb nbc
  refine s_fldL (el_lst ea_nil (by show 0 ≤ 100000; decide)) (ev_var rfl) hb1 B.cl B.nr (by show 4 < 1000; decide) fun rl' H2 hp e2 hx => ?_
  rw [put_row]
  have nb2 : rl' ≠ b := fun z => by
    rw [z, hb1] at hp
    cases hp
  have nc2 : rl' ≠ cl := fun z => by
    rw [z, upd_same] at hp
    cases hp
  have fr : ∀ x o, H x = some o → x ≠ b → x ≠ cl → upd H2 b (.ins C dx (bF true cl rl' d.memory)) x = some o := fun x o ho hxb hxc => upd_ex e2 (upd_ex e1 ho hxc) hxb
  have n2 : H rl' = none := by
    cases h : H rl' with
    | none => rfl
    | some o =>
      rw [upd_ex e1 h nc2] at hp
      cases hp
  have q := kb.next (H' := upd H2 b (.ins C dx (bF true cl rl' d.memory))) (rl' := rl') (vs' := ws.set i (.ref t)) (d' := ⟨d.cases.set i c, [], d.memory⟩) upd_same (upd_ex e2 upd_same (Ne.symm nbc)) (upd_ex (Ex.refl H2) hx nb2) (fun x o ho h1 h2 h3 => fr x o ho h1 h2) (.inr n2)
    (by rw [List.length_set, List.length_set, kb.ct.1]) (fun j v c' h1 h2 => by
      have h2 : (d.cases.set i c)[j]? = some c' := h2
      by_cases z : i = j
      · subst z
        rw [List.getElem?_set_self (by rw [kb.ct.1]; exact hi)] at h1
        rw [List.getElem?_set_self hi] at h2
        have e1 := Option.some.inj h1
        have e2 := Option.some.inj h2
        subst e1
        subst e2
        exact .inl hct
      · rw [List.getElem?_set_ne z] at h1 h2
        exact .inl (kb.ct.2 j v c' h1 h2))
  exact hQ _ q.1 q.2

/-! ### what is told to the object -/
/-- the specification's step, as a promise -/
def StP (C : Addr) (H : Hp) (b : Addr) (d : Desk) (Av : Addr → Prop) (c : Km522.Call) (Q : VK) : Prop := ∀ d' a, Km522.step (some d) c = (some d', a) → Cmd C H b d' Av (a.num :: a.nums) Q
section
variable {C : Addr} {H : Hp} {b : Addr} {d d' : Desk} {Av : Addr → Prop} {c : Km522.Call} {Q : VK} {ans : List Int}
theorem StP.go {H1 : Hp} {n : Int} {ns : List Int} (h : StP C H b d Av c Q) (k : Bk C H1 b d' Av) (a : AvS Av H H1) (e : Km522.step (some d) c = (some d', ⟨n, ns⟩)) : NewI H1 (n :: ns) Q := Cmd.new k a (h d' ⟨n, ns⟩ e)
theorem Bk.mono {H1 : Hp} (k : Bk C H b d Av) (e : Ex H H1) : Bk C H1 b d Av := let ⟨dx, cl, rl, vs, k⟩ := k; ⟨dx, cl, rl, vs, k.mono e⟩
end
def sp_begin (K : PySem.W.Frag) (C : Addr) : Sp := fun vs H Q _ => vs.length = 1 ∧ ∃ (b dx cl rl : Addr) (bg : Bool) (m : Nat) (Av : Addr → Prop), vs = [.ref b] ∧ H b = some (.ins C dx (bF bg cl rl m)) ∧ ¬ Av b ∧ (∀ x, Av x → H x ≠ none) ∧ Cmd C H b ⟨[], [], 1⟩ Av [0] Q
theorem sc_begin : FnScope ["book"] ["book"] (defScope (top 11)) := ⟨rfl, rfl, rfl, by decide +kernel, rfl, by decide +kernel, by decide +kernel⟩
theorem cal_begin {P : Program} {w : World} {K : PySem.W.Frag} {mg : Str → Option Value} {base : Heap} {C : Addr} (B : BkT K mg C) (g : Glo K mg "begin" (top 11)) (T : Txt K mg) (c_restart : C8.Met P w K mg base 1 C "restart" (sp_Book_restart K C) []) : Cal P w K mg base 2 "begin" (sp_begin K C) := by
  refine cal_by g sc_begin (fun _ _ _ _ _ _ us hl => match us, hl with | [_], _ => rfl) (fun vs H Q E h => h.1) fun f cdv A outer s H vs Q E hr h => ?_
  have nd := sc_begin.nd
  refine ⟨_, (pss_cons (ps_expr (C8.pe_mt0 c_restart hr (by decide) (pv 0)))
      (pss_one (ps_ret (pe_lst (pa_cons pe_int pa_nil))))), ?_⟩
  obtain ⟨_, b, dx, cl, rl, bg, m, Av, rfl, hb, ab, av, hQ⟩ := h
  refine q_meth (ev_var rfl) hb bF_restart ea_nil fun H1 e1 => ⟨rfl, b, dx, cl, rl, bg, m, Av, rfl, e1 _ _ hb, ab, fun x hx z => av x hx (fresh_back e1 z), fun H2 k a => ?_⟩
  exact s_retI (xs := [0]) (el_lst (ea_cons ev_c ea_nil) (by show 1 ≤ 100000; decide)) (Cmd.new k ((AvS.ex e1).trans a) hQ)
def sp_set_memory (K : PySem.W.Frag) (C : Addr) : Sp := fun vs H Q _ => vs.length = 2 ∧ ∃ (b : Addr) (d : Desk) (Av : Addr → Prop) (m : Nat), vs = [.ref b, .int m] ∧ CN.DeskOk d ∧ Bk C H b d Av ∧ StP C H b d Av (.memory m) Q
theorem sc_set_memory : FnScope ["book", "memory", "ahead"] ["book", "memory"] (defScope (top 12)) := ⟨rfl, rfl, rfl, by decide +kernel, rfl, by decide +kernel, by decide +kernel⟩
theorem cal_set_memory {P : Program} {w : World} {K : PySem.W.Frag} {mg : Str → Option Value} {base : Heap} {C : Addr} (B : BkT K mg C) (g : Glo K mg "set_memory" (top 12)) (T : Txt K mg) : Cal P w K mg base 1 "set_memory" (sp_set_memory K C) := by
  refine cal_by g sc_set_memory (fun _ _ _ _ _ _ us hl => match us, hl with | [_, _], _ => rfl) (fun vs H Q E h => h.1) fun f cdv A outer s H vs Q E hr h => ?_
  have nd := sc_set_memory.nd
  refine ⟨_, (pss_cons (ps_if (pt_cmpR op_gt (pv 1) (C8.pe_gc rfl T.MOST_MEMORY) (nomark _)) (pss_one (ps_ret (pe_lst (pa_cons (C8.pe_gc rfl T.NOT_AS_TOLD) pa_nil)))) pss_nil)
      (pss_cons (ps_set (i := 2) nd rfl (Or.inl rfl) (pe_fld (pv 0) rfl))
      (pss_cons (ps_fld (pv 0) (pv 1) rfl)
      (pss_one (ps_ret (pe_lst (pa_cons (pv 2) pa_nil))))))), ?_⟩
  obtain ⟨_, b, d, Av, m, rfl, o, kb, hQ⟩ := h
  refine q_refuse (ev_var rfl) (ev_c (v := .int ((2 : Nat) : Int))) (fun hy => hQ.go kb AvS.refl (if_pos hy)) fun hn H1 e1 => ?_
  obtain ⟨dx, cl, rl, ws, kp⟩ := kb.mono e1
  refine q_asg (ev_fld (ev_var rfl) kp.hb B.cl B.nm bF_memory) fun H2 e2 => ?_
  refine q_fld (ev_var rfl) (ev_var rfl) (e2 _ _ kp.hb) B.cl B.nm (by show 4 < 1000; decide) fun H3 e3 => ?_
  rw [put_memory]
  have kp3 := kp.mono (e2.trans e3)
  have q := kp3.next (H' := upd H3 b (.ins C dx (bF true cl rl m))) (rl' := rl) (vs' := ws) (d' := ⟨d.cases, d.row, m⟩) upd_same (upd_ex (Ex.refl _) kp3.hc (Ne.symm kp3.b_ne_c)) (upd_ex (Ex.refl _) kp3.hr (Ne.symm kp3.b_ne_r)) (fun x o ho h1 h2 h3 => upd_ex (Ex.refl _) ho h1) (.inl rfl) kp3.ct.1 (fun i v c h1 h2 => .inl (kp3.ct.2 i v c h1 h2))
  exact s_retI (xs := [(d.memory : Int)]) (el_lst (ea_cons (ev_var rfl) ea_nil) (by show 1 ≤ 100000; decide)) (hQ.go q.1 ((AvS.ex ((e1.trans e2).trans e3)).trans q.2) (if_neg hn))
section
variable {K : PySem.W.Frag} {mg : Str → Option Value} {σ : L2.St} {H : Hp} {ta : TE} {C b dx cl rl : Addr} {ws : List V} {d : Desk} {Av : Addr → Prop} {D : Ends} {tz : TS}
theorem ev_lenR (B : BkT K mg C) (h : Ev ta σ H (.ref b)) (k : BkP C H b dx cl rl ws d Av) : Ev (tCB (rLenS K) (tCons (tFld K ta "row") tNil)) σ H (.int (d.row.length : Int)) := by
  have e := ev_len (K := K) (ev_fld h k.hb B.cl B.nr bF_row) (sq_of k.hr)
  rw [List.length_map, n2i_len] at e
  exact e
theorem ev_lenC (B : BkT K mg C) (h : Ev ta σ H (.ref b)) (k : BkP C H b dx cl rl ws d Av) : Ev (tCB (rLenS K) (tCons (tFld K ta "cases") tNil)) σ H (.int (d.cases.length : Int)) := by
  have e := ev_len (K := K) (ev_fld h k.hb B.cl B.nc bF_cases) (sq_of k.hc)
  rw [k.ct.1] at e
  exact e
theorem et_geN {ta tb : TE} {a m : Nat} (h1 : Ev ta σ H (.int (a : Int))) (h2 : Ev tb σ H (.int (m : Int))) : EvT (tTest (tOp (rI0 fun i j => .bl (decide (j ≤ i))) ta tb)) σ H (decide (m ≤ a)) := by
  have e : decide ((m : Int) ≤ (a : Int)) = decide (m ≤ a) := decide_eq_decide.mpr (by omega)
  rw [← e]
  exact et_test (ev_op h1 h2 rv_I0)
/-- if a >= m: return [n] -/
theorem q_refuseG {ta tb : TE} {a m : Nat} {n : Int} (h1 : Ev ta σ H (.int (a : Int))) (h2 : Ev tb σ H (.int (m : Int))) (hy : m ≤ a → NewI H [n] D.rt) (hn : ¬ m ≤ a → ∀ H1, Ex H H1 → tz D σ H1) :
    tSeq (tIfS (tTest (tOp (rI0 fun i j => .bl (decide (j ≤ i))) ta tb)) (tRet (tLst (tCons (tC (.int n)) tNil))) tNext) tz D σ H :=
  q_when (et_geN h1 h2) (fun hb H1 e1 => s_retI (xs := [n]) (el_lst (ea_cons ev_c ea_nil) (by show 1 ≤ 100000; decide)) ((hy (of_decide_eq_true hb)).to e1 rfl)) (fun hb H1 e1 => hn (of_decide_eq_false hb) H1 e1)
theorem q_pop {l : Addr} {xs : List V} (hl : H l = some (.lst xs)) (ha : Ev ta σ H (.ref l)) (hx : xs ≠ []) (k : ∀ H1, Ex H H1 → tz D σ (upd H1 l (.lst xs.dropLast))) : tSeq (tDrop (tBM0 K "list" rPop ta)) tz D σ H :=
  ha H (Ex.refl H) _ fun H1 e1 => ⟨Or.inl ⟨rfl, xs, sq_of (e1 l _ hl)⟩, l, xs, xs.getLast hx, rfl, rfl, e1 l _ hl, by rw [← List.getLast?_eq_getElem?, List.getLast?_eq_some_getLast hx], k H1 e1⟩
theorem q_popAt {te : TE} {l : Addr} {xs : List V} {i : Nat} (hl : H l = some (.lst xs)) (ha : Ev ta σ H (.ref l)) (hi : Ev te σ H (.int (i : Int))) (hx : i < xs.length) (hz : i < 2 ^ 62) (k : ∀ H1, Ex H H1 → tz D σ (upd H1 l (.lst (xs.eraseIdx i)))) : tSeq (tDrop (tBM K "list" rPopAt ta (tCons te tNil))) tz D σ H :=
  ha H (Ex.refl H) _ fun H1 e1 => ⟨Or.inl ⟨rfl, xs, sq_of (e1 l _ hl)⟩, hi H1 e1 _ fun H2 e2 => ⟨l, xs, (i : Int), i, xs[i], rfl, rfl, (e1.trans e2) l _ hl, by omega, by omega, by
    unfold seqIndex?
    have h0 : ¬ ((i : Int) < 0) := by omega
    have h1 : (0 : Int) ≤ (i : Int) := by omega
    have h2 : (i : Int) < (xs.length : Int) := by omega
    simp [h0, h1, hx], List.getElem?_eq_getElem hx, k H2 (e1.trans e2)⟩⟩
end
theorem n2i_snocV (l : List Nat) (a : Nat) : (n2i (l ++ [a])).map V.int = (n2i l).map V.int ++ [.int (a : Int)] := by
  unfold n2i
  rw [List.map_append, List.map_append]
  rfl
def sp_put (K : PySem.W.Frag) (C : Addr) : Sp := fun vs H Q _ => vs.length = 2 ∧ ∃ (b : Addr) (d : Desk) (Av : Addr → Prop) (m : Nat), vs = [.ref b, .int m] ∧ CN.DeskOk d ∧ Bk C H b d Av ∧ StP C H b d Av (.put m) Q
theorem sc_put : FnScope ["book", "act"] ["book", "act"] (defScope (top 13)) := ⟨rfl, rfl, rfl, by decide +kernel, rfl, by decide +kernel, by decide +kernel⟩
theorem cal_put {P : Program} {w : World} {K : PySem.W.Frag} {mg : Str → Option Value} {base : Heap} {C : Addr} (B : BkT K mg C) (g : Glo K mg "put" (top 13)) (T : Txt K mg) : Cal P w K mg base 1 "put" (sp_put K C) := by
  refine cal_by g sc_put (fun _ _ _ _ _ _ us hl => match us, hl with | [_, _], _ => rfl) (fun vs H Q E h => h.1) fun f cdv A outer s H vs Q E hr h => ?_
  have nd := sc_put.nd
  refine ⟨_, (pss_cons (ps_if (pt_cmpR op_gt (pv 1) (C8.pe_gc rfl T.MOST_ACT) (nomark _)) (pss_one (ps_ret (pe_lst (pa_cons (C8.pe_gc rfl T.NOT_AS_TOLD) pa_nil)))) pss_nil)
      (pss_cons (ps_if (pt_cmpR op_ge (pe_callB call_len_seq (by rfl) T.len PySem.boot_len (pa_cons (pe_fld (pv 0) rfl) pa_nil)) (C8.pe_gc rfl T.MOST_ACTS) (nomark _)) (pss_one (ps_ret (pe_lst (pa_cons (C8.pe_gc rfl T.TOO_MANY) pa_nil)))) pss_nil)
      (pss_cons (ps_expr (pe_bm PySem.F.plainAttrs_list PySem.F.slot_list_append PySem.F.type_list_append mt_append (pe_fld (pv 0) rfl) (pa_cons (pv 1) pa_nil)))
      (pss_one (ps_ret (pe_lst (pa_cons (pe_callB call_len_seq (by rfl) T.len PySem.boot_len (pa_cons (pe_fld (pv 0) rfl) pa_nil)) pa_nil))))))), ?_⟩
  obtain ⟨_, b, d, Av, a, rfl, o, kb, hQ⟩ := h
  refine q_refuse (ev_var rfl) (ev_c (v := .int ((9 : Nat) : Int))) (fun hy => hQ.go kb AvS.refl (if_pos hy)) fun hn H1 e1 => ?_
  have hn' : ¬ (10 ≤ a) := by omega
  obtain ⟨dx, cl, rl, ws, kp⟩ := kb.mono e1
  refine q_refuseG (ev_lenR (ta := tVar 0) B (ev_var rfl) kp) (ev_c (v := .int ((8 : Nat) : Int))) (fun hy => hQ.go ⟨dx, cl, rl, ws, kp⟩ (AvS.ex e1) ((if_neg hn').trans (if_pos hy))) fun hm H2 e2 => ?_
  have kp2 := kp.mono e2
  refine q_app kp2.hr (ev_fld (ev_var rfl) kp2.hb B.cl B.nr bF_row) (ev_var rfl) (by rw [List.length_map, n2i_len]; omega) fun H3 e3 => ?_
  have kp3 := kp2.mono e3
  rw [← n2i_snocV]
  have hr3 : upd H3 rl (.lst ((n2i (d.row ++ [a])).map V.int)) rl = _ := upd_same
  have hb3 : upd H3 rl (.lst ((n2i (d.row ++ [a])).map V.int)) b = _ := upd_ex (Ex.refl _) kp3.hb kp3.b_ne_r
  have q := kp3.next (H' := upd H3 rl (.lst ((n2i (d.row ++ [a])).map V.int))) (rl' := rl) (vs' := ws) (d' := ⟨d.cases, d.row ++ [a], d.memory⟩) hb3 (upd_ex (Ex.refl _) kp3.hc kp3.ne) hr3 (fun x o ho h1 h2 h3 => upd_ex (Ex.refl _) ho h3) (.inl rfl) kp3.ct.1 (fun i v c h1 h2 => .inl (kp3.ct.2 i v c h1 h2))
  refine s_retI (xs := [((d.row.length + 1 : Nat) : Int)]) (el_lst (ea_cons (by
    have e := ev_len (K := K) (ta := tFld K (tVar 0) "row") (σ := [some (.ref b), some (.int a)]) (ev_fld (ev_var rfl) hb3 B.cl B.nr bF_row) (sq_of hr3)
    rw [List.length_map, n2i_len, List.length_append] at e
    exact e) ea_nil) (by show 1 ≤ 100000; decide)) (hQ.go q.1 ((AvS.ex ((e1.trans e2).trans e3)).trans q.2) ((if_neg hn').trans (if_neg hm)))
def sp_back (K : PySem.W.Frag) (C : Addr) : Sp := fun vs H Q _ => vs.length = 1 ∧ ∃ (b : Addr) (d : Desk) (Av : Addr → Prop), vs = [.ref b] ∧ CN.DeskOk d ∧ Bk C H b d Av ∧ StP C H b d Av .back Q
theorem n2i_take (l : List Nat) (k : Nat) : (n2i (l.take k)).map V.int = ((n2i l).map V.int).take k := by
  unfold n2i
  rw [List.map_take, List.map_take]
theorem sc_back : FnScope ["book"] ["book"] (defScope (top 14)) := ⟨rfl, rfl, rfl, by decide +kernel, rfl, by decide +kernel, by decide +kernel⟩
theorem cal_back {P : Program} {w : World} {K : PySem.W.Frag} {mg : Str → Option Value} {base : Heap} {C : Addr} (B : BkT K mg C) (g : Glo K mg "back" (top 14)) (T : Txt K mg) : Cal P w K mg base 1 "back" (sp_back K C) := by
  refine cal_by g sc_back (fun _ _ _ _ _ _ us hl => match us, hl with | [_], _ => rfl) (fun vs H Q E h => h.1) fun f cdv A outer s H vs Q E hr h => ?_
  have nd := sc_back.nd
  refine ⟨_, (pss_cons (ps_if (pt_cmpR op_eq (pe_callB call_len_seq (by rfl) T.len PySem.boot_len (pa_cons (pe_fld (pv 0) rfl) pa_nil)) pe_int (nomark _)) (pss_one (ps_ret (pe_lst (pa_cons (C8.pe_gc rfl T.NONE_LEFT) pa_nil)))) pss_nil)
      (pss_cons (ps_expr (pe_bm0 PySem.F.plainAttrs_list PySem.F.slot_list_pop PySem.F.type_list_pop mt_pop (pe_fld (pv 0) rfl)))
      (pss_one (ps_ret (pe_lst (pa_cons (pe_callB call_len_seq (by rfl) T.len PySem.boot_len (pa_cons (pe_fld (pv 0) rfl) pa_nil)) pa_nil)))))), ?_⟩
  obtain ⟨_, b, d, Av, rfl, o, kb, hQ⟩ := h
  obtain ⟨dx, cl, rl, ws, kp⟩ := kb
  refine q_when (et_eqI (ev_lenR (ta := tVar 0) B (ev_var rfl) kp) ev_c) (fun hbb H1 e1 => ?_) (fun hbb H1 e1 => ?_)
  · have z : d.row = [] := List.eq_nil_of_length_eq_zero (by have := of_decide_eq_true hbb; omega)
    exact s_retI (xs := [-6]) (el_lst (ea_cons ev_c ea_nil) (by show 1 ≤ 100000; decide)) (hQ.go ⟨dx, cl, rl, ws, kp.mono e1⟩ (AvS.ex e1) (if_pos z))
  · have z : d.row ≠ [] := fun q => of_decide_eq_false hbb (by rw [q]; rfl)
    have lz : d.row.length ≠ 0 := fun q => z (List.eq_nil_of_length_eq_zero q)
    have kp2 := kp.mono e1
    refine q_pop kp2.hr (ev_fld (ev_var rfl) kp2.hb B.cl B.nr bF_row) (fun q => by
      have := congrArg List.length q
      rw [List.length_map, n2i_len] at this
      exact lz this) fun H3 e3 => ?_
    have kp3 := kp2.mono e3
    rw [List.dropLast_eq_take, List.length_map, n2i_len, ← n2i_take]
    have hr3 : upd H3 rl (.lst ((n2i (d.row.take (d.row.length - 1))).map V.int)) rl = _ := upd_same
    have hb3 : upd H3 rl (.lst ((n2i (d.row.take (d.row.length - 1))).map V.int)) b = _ := upd_ex (Ex.refl _) kp3.hb kp3.b_ne_r
    have q := kp3.next (H' := upd H3 rl (.lst ((n2i (d.row.take (d.row.length - 1))).map V.int))) (rl' := rl) (vs' := ws) (d' := ⟨d.cases, d.row.take (d.row.length - 1), d.memory⟩) hb3 (upd_ex (Ex.refl _) kp3.hc kp3.ne) hr3 (fun x o ho h1 h2 h3 => upd_ex (Ex.refl _) ho h3) (.inl rfl) kp3.ct.1 (fun i v c h1 h2 => .inl (kp3.ct.2 i v c h1 h2))
    refine s_retI (xs := [((d.row.length - 1 : Nat) : Int)]) (el_lst (ea_cons (by
      have e := ev_len (K := K) (ta := tFld K (tVar 0) "row") (σ := [some (.ref b)]) (ev_fld (ev_var rfl) hb3 B.cl B.nr bF_row) (sq_of hr3)
      rw [List.length_map, n2i_len, List.length_take, Nat.min_eq_left (by omega)] at e
      exact e) ea_nil) (by show 1 ≤ 100000; decide)) (hQ.go q.1 ((AvS.ex (e1.trans e3)).trans q.2) (if_neg z))
def sp_clear (K : PySem.W.Frag) (C : Addr) : Sp := fun vs H Q _ => vs.length = 1 ∧ ∃ (b : Addr) (d : Desk) (Av : Addr → Prop), vs = [.ref b] ∧ CN.DeskOk d ∧ Bk C H b d Av ∧ StP C H b d Av .clear Q
theorem sc_clear : FnScope ["book", "many"] ["book"] (defScope (top 15)) := ⟨rfl, rfl, rfl, by decide +kernel, rfl, by decide +kernel, by decide +kernel⟩
theorem cal_clear {P : Program} {w : World} {K : PySem.W.Frag} {mg : Str → Option Value} {base : Heap} {C : Addr} (B : BkT K mg C) (g : Glo K mg "clear" (top 15)) (T : Txt K mg) : Cal P w K mg base 1 "clear" (sp_clear K C) := by
  refine cal_by g sc_clear (fun _ _ _ _ _ _ us hl => match us, hl with | [_], _ => rfl) (fun vs H Q E h => h.1) fun f cdv A outer s H vs Q E hr h => ?_
  have nd := sc_clear.nd
  refine ⟨_, (pss_cons (ps_set (i := 1) nd rfl (Or.inl rfl) (pe_callB call_len_seq (by rfl) T.len PySem.boot_len (pa_cons (pe_fld (pv 0) rfl) pa_nil)))
      (pss_cons (ps_fld (pv 0) (pe_lst pa_nil) rfl)
      (pss_one (ps_ret (pe_lst (pa_cons (pv 1) pa_nil)))))), ?_⟩
  obtain ⟨_, b, d, Av, rfl, o, kb, hQ⟩ := h
  obtain ⟨dx, cl, rl, ws, kp⟩ := kb
  refine q_asg (ev_lenR (ta := tVar 0) B (ev_var rfl) kp) fun H1 e1 => ?_
  have kp1 := kp.mono e1
  refine q_fldL (el_lst ea_nil (by show 0 ≤ 100000; decide)) (ev_var rfl) kp1.hb B.cl B.nr (by show 4 < 1000; decide) fun rl' H2 hp e2 hx => ?_
  rw [put_row]
  have kp2 := kp1.mono e2
  have n1 : rl' ≠ b := fun z => by
    rw [z, kp1.hb] at hp
    cases hp
  have q := kp1.next (H' := upd H2 b (.ins C dx (bF true cl rl' d.memory))) (rl' := rl') (vs' := ws) (d' := ⟨d.cases, [], d.memory⟩) upd_same (upd_ex (Ex.refl _) kp2.hc (Ne.symm kp2.b_ne_c)) (upd_ex (Ex.refl _) hx n1) (fun x o ho h1 h2 h3 => upd_ex e2 ho h1) (.inr hp) kp2.ct.1 (fun i v c h1 h2 => .inl (kp1.ct.2 i v c h1 h2))
  exact s_retI (xs := [(d.row.length : Int)]) (el_lst (ea_cons (ev_var rfl) ea_nil) (by show 1 ≤ 100000; decide)) (hQ.go q.1 ((AvS.ex e1).trans q.2) rfl)
def sp_drop (K : PySem.W.Frag) (C : Addr) : Sp := fun vs H Q _ => vs.length = 2 ∧ ∃ (b : Addr) (d : Desk) (Av : Addr → Prop) (m : Nat), vs = [.ref b, .int m] ∧ CN.DeskOk d ∧ Bk C H b d Av ∧ StP C H b d Av (.drop m) Q
theorem sc_drop : FnScope ["book", "number"] ["book", "number"] (defScope (top 18)) := ⟨rfl, rfl, rfl, by decide +kernel, rfl, by decide +kernel, by decide +kernel⟩
theorem cal_drop {P : Program} {w : World} {K : PySem.W.Frag} {mg : Str → Option Value} {base : Heap} {C : Addr} (B : BkT K mg C) (g : Glo K mg "drop" (top 18)) (T : Txt K mg) : Cal P w K mg base 1 "drop" (sp_drop K C) := by
  refine cal_by g sc_drop (fun _ _ _ _ _ _ us hl => match us, hl with | [_, _], _ => rfl) (fun vs H Q E h => h.1) fun f cdv A outer s H vs Q E hr h => ?_
  have nd := sc_drop.nd
  refine ⟨_, (pss_cons (ps_if (pt_cmpR op_ge (pv 1) (pe_callB call_len_seq (by rfl) T.len PySem.boot_len (pa_cons (pe_fld (pv 0) rfl) pa_nil)) (nomark _)) (pss_one (ps_ret (pe_lst (pa_cons (C8.pe_gc rfl T.NOT_THERE) pa_nil)))) pss_nil)
      (pss_cons (ps_expr (pe_bm PySem.F.plainAttrs_list PySem.F.slot_list_pop PySem.F.type_list_pop mt_popAt (pe_fld (pv 0) rfl) (pa_cons (pv 1) pa_nil)))
      (pss_one (ps_ret (pe_lst (pa_cons (pe_callB call_len_seq (by rfl) T.len PySem.boot_len (pa_cons (pe_fld (pv 0) rfl) pa_nil)) pa_nil)))))), ?_⟩
  obtain ⟨_, b, d, Av, i, rfl, o, kb, hQ⟩ := h
  obtain ⟨dx, cl, rl, ws, kp⟩ := kb
  refine q_refuseG (ev_var rfl) (ev_lenC (ta := tVar 0) B (ev_var rfl) kp) (fun hy => hQ.go ⟨dx, cl, rl, ws, kp⟩ AvS.refl (if_pos hy)) fun hm H1 e1 => ?_
  have kp1 := kp.mono e1
  have many := o.many
  have hi : i < d.cases.length := by omega
  refine q_popAt kp1.hc (ev_fld (ev_var rfl) kp1.hb B.cl B.nc bF_cases) (ev_var rfl) (by rw [kp1.ct.1]; exact hi) (by omega) fun H2 e2 => ?_
  have kp2 := kp1.mono e2
  have hc3 : upd H2 cl (.lst (ws.eraseIdx i)) cl = _ := upd_same
  have hb3 : upd H2 cl (.lst (ws.eraseIdx i)) b = _ := upd_ex (Ex.refl _) kp2.hb kp2.b_ne_c
  have le : (ws.eraseIdx i).length = d.cases.length - 1 := by rw [List.length_eraseIdx, kp.ct.1, if_pos hi]
  have q := kp2.next (H' := upd H2 cl (.lst (ws.eraseIdx i))) (rl' := rl) (vs' := ws.eraseIdx i) (d' := ⟨d.cases.eraseIdx i, d.row, d.memory⟩) hb3 hc3 (upd_ex (Ex.refl _) kp2.hr (Ne.symm kp2.ne)) (fun x o ho h1 h2 h3 => upd_ex (Ex.refl _) ho h2) (.inl rfl)
    (by rw [le, List.length_eraseIdx, if_pos hi]) (fun j v c h1 h2 => by
      have h2 : (d.cases.eraseIdx i)[j]? = some c := h2
      rw [List.getElem?_eraseIdx] at h1 h2
      by_cases z : j < i
      · rw [if_pos z] at h1 h2
        exact .inl (kp2.ct.2 _ v c h1 h2)
      · rw [if_neg z] at h1 h2
        exact .inl (kp2.ct.2 _ v c h1 h2))
  refine s_retI (xs := [((d.cases.length - 1 : Nat) : Int)]) (el_lst (ea_cons (by
    have e := ev_len (K := K) (ta := tFld K (tVar 0) "cases") (σ := [some (.ref b), some (.int i)]) (ev_fld (ev_var rfl) hb3 B.cl B.nc bF_cases) (sq_of hc3)
    rw [le] at e
    exact e) ea_nil) (by show 1 ≤ 100000; decide)) (hQ.go q.1 ((AvS.ex (e1.trans e2)).trans q.2) ((if_neg hm).trans (by rw [List.eraseIdx_eq_take_drop_succ]; rfl)))

def sp_case_with (K : PySem.W.Frag) (C : Addr) : Sp := fun vs H Q _ => vs.length = 2 ∧ ∃ (b r : Addr) (d : Desk) (row : List Nat), vs = [.ref b, .ref r] ∧ CN.DeskOk d ∧ BkQ C H b d ∧ H r = some (.lst ((n2i row).map V.int)) ∧ RetV (plV (placeOf (d.cases.map (·.1)) row)) H Q
theorem sc_case_with : FnScope ["book", "row", "number"] ["book", "row"] (defScope (top 16)) := ⟨rfl, rfl, rfl, by decide +kernel, rfl, by decide +kernel, by decide +kernel⟩
theorem cal_case_with {P : Program} {w : World} {K : PySem.W.Frag} {mg : Str → Option Value} {base : Heap} {C : Addr} (B : BkT K mg C) (g : Glo K mg "case_with" (top 16)) (T : Txt K mg) : Cal P w K mg base 1 "case_with" (sp_case_with K C) := by
  refine cal_by g sc_case_with (fun _ _ _ _ _ _ us hl => match us, hl with | [_, _], _ => rfl) (fun vs H Q E h => h.1) fun f cdv A outer s H vs Q E hr h => ?_
  have nd := sc_case_with.nd
  refine ⟨_, (pss_cons (ps_for PassesOwn.never rfl (pi_range1 rfl T.range (pa_cons (pe_callB call_len_seq (by rfl) T.len PySem.boot_len (pa_cons (pe_fld (pv 0) rfl) pa_nil)) pa_nil)) (pg_name (i := 2) nd rfl (Or.inl rfl)) (pss_one (ps_if (pt_cmpR (op_eqD hr.units) (pe_ix ix_tup (pe_ix ix_list (pe_fld (pv 0) rfl) (pv 2) (fun _ _ => rfl)) pe_int (fun _ _ => rfl)) (pv 1) (nomark _)) (pss_one (ps_ret (pv 2))) pss_nil)))
      (pss_one (ps_ret pe_non))), ?_⟩
  obtain ⟨_, b, r, d, row, rfl, o, ⟨dx, cl, rl, hb, ⟨a, ws, ha, hc, hl, hct⟩, hrw⟩, hrow, hQ⟩ := h
  have ha := V.ref.inj ha
  subst ha
  have many := o.many
  refine q_forR1 (n := (d.cases.length : Int)) (by rw [← hl]; exact ea_cons (ev_len (ev_fld (ev_var rfl) hb B.cl B.nc bF_cases) (sq_of hc)) ea_nil) (by omega)
    (fun i σ H' => ∃ z : Option V, σ = [some (.ref b), some (.ref r), z] ∧ Ex H H' ∧ ∀ j, j < i → (d.cases.map (·.1))[j]? ≠ some row) (fun H2 e2 => ⟨none, rfl, e2, fun j hj => absurd hj (Nat.not_lt_zero _)⟩) ?_ ?_
  · rintro i σ H' hi ⟨z, rfl, e, hno⟩
    have hi' : i < d.cases.length := by omega
    have hiw : i < ws.length := by omega
    obtain ⟨t, q, h3, h4, h5⟩ := hct i _ _ (List.getElem?_eq_getElem hiw) (List.getElem?_eq_getElem hi')
    have eg : (d.cases.map (·.1))[i]? = some (d.cases[i]'hi').1 := by rw [List.getElem?_map, List.getElem?_eq_getElem hi']; rfl
    refine s_when (et_test (ev_op (ev_op (ev_op (ev_fld (ev_var rfl) (e _ _ hb) B.cl B.nc bF_cases) (ev_var rfl) (rv_ixL (sq_of (e _ _ hc)) (v := .ref t) ?_)) ev_c (rv_ixT (v := .ref q) (st_of (e _ _ h4)) rfl)) (ev_var rfl) (rv_eqI (e _ _ h5) (e _ _ hrow)))) (fun hbb H2 e2 => ?_) (fun hbb H2 e2 => ?_)
    · rw [← h3]
      exact atI_nat (List.getElem?_eq_getElem hiw)
    · have es := n2i_inj (of_decide_eq_true hbb)
      refine s_ret (ev_var rfl) fun H3 e3 => ?_
      have q := hQ H3 ((e.trans e2).trans e3)
      have eT : (d.cases.map (·.1))[i]? = some row := by rw [eg, es]
      unfold placeOf at q
      rw [if_pos (List.mem_of_getElem? eT), findIdx_first eT hno] at q
      exact q
    · refine ⟨_, rfl, e.trans e2, fun j hj => ?_⟩
      by_cases cj : j = i
      · subst cj
        rw [eg]
        exact fun z => of_decide_eq_false hbb (by rw [Option.some.inj z])
      · exact hno j (by omega)
  · rintro σ H' ⟨z, rfl, e, hno⟩
    refine s_ret ev_c fun H3 e3 => ?_
    have q := hQ H3 (e.trans e3)
    unfold placeOf at q
    rw [if_neg (fun hm => by
      obtain ⟨j, hj, hje⟩ := List.getElem_of_mem hm
      rw [List.length_map] at hj
      refine hno j (by omega) ?_
      rw [← hje]
      exact List.getElem?_eq_getElem _)] at q
    exact q
def sp_rows (K : PySem.W.Frag) (C : Addr) : Sp := fun vs H Q _ => vs.length = 1 ∧ ∃ (b : Addr) (d : Desk), vs = [.ref b] ∧ CN.DeskOk d ∧ BkQ C H b d ∧ NewI H ((d.cases.length : Int) :: n2i (d.cases.map (·.2))) Q
theorem el_lcU2 {K : PySem.W.Frag} {σ : L2.St} {H : Hp} {te : TE} {a : Addr} {xs : List V} {tl : TE} {j1 j2 : Nat} {vs : List Nat} (u v : Nat → V) (h : Ev tl σ H (.ref a)) (hx : SqL K H a xs) (hz : xs.length ≤ 40000) (hw : ∀ x y, wipe (((wipe σ vs).set j1 (some x)).set j2 (some y)) vs = wipe σ vs)
    (hp : ∀ i x, xs[i]? = some x → ∃ t, x = .ref t ∧ SqT K H t [u i, v i]) (he : ∀ (i : Nat) H1, Ex H H1 → Ev te (((wipe σ vs).set j1 (some (u i))).set j2 (some (v i))) H1 (v i)) :
    EvL (tLc (iList K tl) (gTup K 2 (gCons (gName j1) (gCons (gName j2) gNil))) tYes te vs) σ H (given xs.length (fun _ => true) v) := fun H0 e Q q => h H0 e _ fun H1 e1 => ⟨a, rfl, ⟨xs, ex_l (e.trans e1) hx⟩, fun Dl hD =>
  lc_list (xs := xs) (Cw H1 (fun _ => true) v Dl) ⟨hD, Ex.new hD, upd_same⟩ (fun i H' _ p => ex_l ((e.trans e1).trans p.2.1) hx) (fun i x H' hi p => by
    obtain ⟨t, hv, ht⟩ := hp i x hi
    exact ⟨t, _, hv, ex_t ((e.trans e1).trans p.2.1) ht, rfl, _, _, rfl, _, _, rfl, rfl, hw _ _, cw_turn p (by have := (List.getElem?_eq_some_iff.mp hi).1; omega) (fun H2 e2 Q2 q2 => q2 H2 (Ex.refl H2)) (fun hf => he i H1 (e.trans e1))⟩)
    (fun H' p => q Dl H' (fresh_back e1 p.1) (e1.trans p.2.1) p.2.2)⟩
theorem rows_is (d : Desk) : given d.cases.length (fun _ => true) (fun i => .int ((d.cases.getD i ([], 0)).2 : Nat)) = (n2i (d.cases.map (·.2))).map V.int := by
  refine List.ext_getElem? fun i => ?_
  unfold given n2i
  rw [List.filter_eq_self.mpr (fun _ _ => rfl), List.getElem?_map, List.getElem?_map, List.getElem?_map, List.getElem?_map]
  by_cases hi : i < d.cases.length
  · rw [List.getElem?_range hi, List.getElem?_eq_getElem hi]
    show some (V.int ((d.cases.getD i ([], 0)).2 : Nat)) = _
    rw [List.getD_eq_getElem?_getD, List.getElem?_eq_getElem hi]
    rfl
  · rw [List.getElem?_eq_none (by rw [List.length_range]; omega), List.getElem?_eq_none (by omega)]
    rfl
theorem sc_rows : FnScope ["book", "row", "came"] ["book"] (defScope (top 19)) := ⟨rfl, rfl, rfl, by decide +kernel, rfl, by decide +kernel, by decide +kernel⟩
theorem cal_rows {P : Program} {w : World} {K : PySem.W.Frag} {mg : Str → Option Value} {base : Heap} {C : Addr} (B : BkT K mg C) (g : Glo K mg "rows" (top 19)) (T : Txt K mg) : Cal P w K mg base 1 "rows" (sp_rows K C) := by
  refine cal_by g sc_rows (fun _ _ _ _ _ _ us hl => match us, hl with | [_], _ => rfl) (fun vs H Q E h => h.1) fun f cdv A outer s H vs Q E hr h => ?_
  have nd := sc_rows.nd
  refine ⟨_, (pss_one (ps_ret (pe_op op_cat (pe_lst (pa_cons (pe_callB call_len_seq (by rfl) T.len PySem.boot_len (pa_cons (pe_fld (pv 0) rfl) pa_nil)) pa_nil)) (pe_lc (own := [("row", 1), ("came", 2)]) (g := gTup K 2 (gCons (gName 1) (gCons (gName 2) gNil))) rfl nd (pi_list (pe_fld (pv 0) rfl)) (blkOk_by (own := [("row", 1), ("came", 2)]) (N := ["book", "row", "came"]) (sc := defScope (top 19)) (by decide +kernel)) (fun _ _ _ _ _ => by exact (pg_tup rfl (pgs_cons (pg_name (i := 1) nd rfl (Or.inl rfl)) (pgs_cons (pg_name (i := 2) nd rfl (Or.inl rfl)) pgs_nil)))) (fun _ _ _ _ _ => by exact pts_nil) (fun _ _ _ _ _ => by exact (pv 2)))))), ?_⟩
  obtain ⟨_, b, d, rfl, o, ⟨dx, cl, rl, hb, ⟨a, ws, ha, hc, hl, hct⟩, hrw⟩, hQ⟩ := h
  have ha := V.ref.inj ha
  subst ha
  have many := o.many
  have e1 : EvL (tLst (tCons (tCB (rLenS K) (tCons (tFld K (tVar 0) "cases") tNil)) tNil)) [some (.ref b), none, none] H [.int (d.cases.length : Int)] := by
    have e := ev_len (K := K) (ta := tFld K (tVar 0) "cases") (σ := [some (.ref b), none, none]) (ev_fld (ev_var rfl) hb B.cl B.nc bF_cases) (sq_of hc)
    rw [hl] at e
    exact el_lst (ea_cons e ea_nil) (by show 1 ≤ 100000; decide)
  have e2 := el_lcU2 (K := K) (te := tVar 2) (tl := tFld K (tVar 0) "cases") (j1 := 1) (j2 := 2) (vs := [1, 2]) (σ := [some (.ref b), none, none]) (H := H) (fun i => .ref ((fun w => match w with | some (V.ref t) => (match H t with | some (.tup [.ref r, _]) => r | _ => 0) | _ => 0) ws[i]?)) (fun i => .int ((d.cases.getD i ([], 0)).2 : Nat)) (ev_fld (ev_var rfl) hb B.cl B.nc bF_cases) (sq_of hc) (by omega) (fun _ _ => rfl)
    (fun i x hx => by
      have hi := (List.getElem?_eq_some_iff.mp hx).1
      obtain ⟨t, q, h3, h4, h5⟩ := hct i x _ hx (List.getElem?_eq_getElem (by omega))
      refine ⟨t, h3, ?_⟩
      rw [hx, h3, List.getD_eq_getElem?_getD, List.getElem?_eq_getElem (by omega)]
      show SqT K H t [.ref (match H t with | some (.tup [.ref r, _]) => r | _ => 0), _]
      rw [h4]
      exact st_of h4) (fun i H1 e => ev_var rfl)
  rw [hl, rows_is] at e2
  have e3 := el_catLL e1 e2 (by rw [List.length_map, n2i_len, List.length_map]; show 1 + d.cases.length ≤ 100000; omega)
  exact s_retI (xs := (d.cases.length : Int) :: n2i (d.cases.map (fun (x : Case) => (x.2 : Nat)))) e3 hQ

/-! ### close -/
section
variable {K : PySem.W.Frag} {σ : L2.St} {H : Hp} {ta : TE} {D : Ends} {tz : TS} {a C dx : Addr} {fs : List (Str × V)} {m : Str}
theorem q_methP {sp : Sp} {E : XK} {t : TA} {U : Hp → Hp → List V → Prop} (ha : Ev ta σ H (.ref a)) (ho : H a = some (.ins C dx fs)) (hl : fs.lookup m = none) (h : EaP t σ H U) (k : ∀ vs H1 H2, Ex H H1 → Ex H1 H2 → U H1 H2 vs → sp (.ref a :: vs) H2 (fun _ H3 => tz D σ H3) E) : tSeq (tDrop (tMeth C m sp [] E ta t)) tz D σ H :=
  ha H (Ex.refl H) _ fun H1 e1 => ⟨a, dx, fs, rfl, e1 _ _ ho, hl, h H1 e1 _ fun vs H2 e2 u => by
    rw [List.append_nil]
    exact k vs H1 H2 e1 e2 u⟩
/-- a new tuple, the last argument -/
theorem eap_tup {tu : TA} {vs : List V} (h : EvA tu σ H vs) (hl : vs.length ≤ 100000) : EaP (tCons (tTup tu) tNil) σ H (fun H1 H2 ws => ∃ p, ws = [.ref p] ∧ H1 p = none ∧ H2 p = some (.tup vs)) :=
  eap_cons (evp_evU (eu_tup h hl)) fun v H1 H2 e1 e2 ⟨p, hv, hp, hx⟩ => fun H3 e3 Q q => q [] H3 (Ex.refl H3) fun _ => ⟨p, by rw [hv], hp, e3 _ _ hx⟩
theorem eap_tup1 {te : TE} {tu : TA} {x : V} {vs : List V} (hx : Ev te σ H x) (h : EvA tu σ H vs) (hl : vs.length ≤ 100000) : EaP (tCons te (tCons (tTup tu) tNil)) σ H (fun H1 H2 ws => ∃ p, ws = [x, .ref p] ∧ H1 p = none ∧ H2 p = some (.tup vs)) :=
  eap_cons (evp_ev hx) fun v H1 H2 e1 e2 hv => by
    subst hv
    intro H3 e3 Q q
    exact eap_tup (h.mono (e1.trans e2)) hl H3 e3 Q fun ws H4 e4 ⟨p, hw, hp, hxx⟩ => q ws H4 e4 fun _ => ⟨p, by rw [hw], fresh_back (e2.trans e3) hp, hxx⟩
end
theorem any_row {d : Desk} : (d.cases.any fun c => c.1 == d.row) = decide (d.row ∈ d.cases.map (·.1)) := by
  rw [Bool.eq_iff_iff, List.any_eq_true, decide_eq_true_eq, List.mem_map]
  exact ⟨fun ⟨c, h1, h2⟩ => ⟨c, h1, eq_of_beq h2⟩, fun ⟨c, h1, h2⟩ => ⟨c, h1, beq_iff_eq.mpr h2⟩⟩
theorem idx_row {d : Desk} : (d.cases.map (·.1)).findIdx (fun t => t == d.row) = d.cases.findIdx fun c => c.1 == d.row := by
  rw [List.findIdx_map]
  rfl
theorem add1_new {d : Desk} {k : Nat} (h : d.row ∉ d.cases.map (·.1)) : Km522.add1 d k = ⟨d.cases ++ [(d.row, k)], [], d.memory⟩ := by
  unfold Km522.add1
  rw [any_row, decide_eq_false h]
  rfl
theorem set_map {l : List Case} {row : List Nat} {f : Case → Case} (nd : (l.map (·.1)).Nodup) {i : Nat} (hi : i < l.length) (he : l[i].1 = row) : l.map (fun c => if c.1 == row then f c else c) = l.set i (f l[i]) := by
  refine List.ext_getElem (by rw [List.length_map, List.length_set]) fun j h1 h2 => ?_
  rw [List.getElem_map, List.getElem_set]
  have hj : j < l.length := by rw [List.length_map] at h1; exact h1
  by_cases c : i = j
  · subst c
    rw [if_pos rfl, if_pos (beq_iff_eq.mpr he)]
  · rw [if_neg c, if_neg]
    intro q
    have q := eq_of_beq q
    have nn := List.pairwise_iff_getElem.mp nd
    have e1 : ∀ (k : Nat) (h : k < l.length), (l.map (·.1))[k]'(by rw [List.length_map]; exact h) = (l[k]'h).1 := fun k h => List.getElem_map ..
    rcases Nat.lt_or_gt_of_ne c with z | z
    · refine nn i j (by rw [List.length_map]; exact hi) (by rw [List.length_map]; exact hj) z ?_
      rw [e1 i hi, e1 j hj, he, q]
    · refine nn j i (by rw [List.length_map]; exact hj) (by rw [List.length_map]; exact hi) z ?_
      rw [e1 i hi, e1 j hj, he, q]
theorem add1_old {d : Desk} {k i : Nat} (o : CN.DeskOk d) (hi : i < d.cases.length) (he : d.cases[i].1 = d.row) : Km522.add1 d k = ⟨d.cases.set i (d.row, min 100 (d.cases[i].2 + k)), [], d.memory⟩ := by
  have hm : d.row ∈ d.cases.map (·.1) := List.mem_map.mpr ⟨_, List.getElem_mem hi, he⟩
  unfold Km522.add1
  rw [any_row, decide_eq_true hm, if_pos rfl]
  have e := set_map (f := fun c => (c.1, min Km522.OFTEN (c.2 + k))) o.nd hi he
  rw [e, he]
  rfl
def sp_close (K : PySem.W.Frag) (C : Addr) : Sp := fun vs H Q _ => vs.length = 2 ∧ ∃ (b : Addr) (d : Desk) (Av : Addr → Prop) (m : Nat), vs = [.ref b, .int m] ∧ CN.DeskOk d ∧ Bk C H b d Av ∧ StP C H b d Av (.close m) Q
theorem sc_close : FnScope ["book", "many", "number", "row", "came"] ["book", "many"] (defScope (top 17)) := ⟨rfl, rfl, rfl, by decide +kernel, rfl, by decide +kernel, by decide +kernel⟩
theorem cal_close {P : Program} {w : World} {K : PySem.W.Frag} {mg : Str → Option Value} {base : Heap} {C : Addr} (B : BkT K mg C) (g : Glo K mg "close" (top 17)) (T : Txt K mg) (c_note : C8.Met P w K mg base 1 C "note" (sp_Book_note K C) []) (c_renew : C8.Met P w K mg base 1 C "renew" (sp_Book_renew K C) []) (c_case_with : Cal P w K mg base 1 "case_with" (sp_case_with K C)) : Cal P w K mg base 2 "close" (sp_close K C) := by
  refine cal_by g sc_close (fun _ _ _ _ _ _ us hl => match us, hl with | [_, _], _ => rfl) (fun vs H Q E h => h.1) fun f cdv A outer s H vs Q E hr h => ?_
  have nd := sc_close.nd
  refine ⟨_, (pss_cons (ps_if (PW.pt (pw_or (pt_cmpR op_lt (pv 1) pe_int (nomark _)) (pw_or1 (pt_cmpR op_gt (pv 1) (C8.pe_gc rfl T.MOST_TIMES) (nomark _))))) (pss_one (ps_ret (pe_lst (pa_cons (C8.pe_gc rfl T.NOT_AS_TOLD) pa_nil)))) pss_nil)
      (pss_cons (ps_set (i := 2) nd rfl (Or.inl rfl) (C8.pe_c c_case_with hr (by decide) rfl (pa_cons (pv 0) (pa_cons (pe_fld (pv 0) rfl) pa_nil))))
      (pss_cons (ps_if (pt_cmpR op_isN (pv 2) pe_non (nomark _)) (pss_cons (ps_if (pt_cmpR op_ge (pe_callB call_len_seq (by rfl) T.len PySem.boot_len (pa_cons (pe_fld (pv 0) rfl) pa_nil)) (C8.pe_gc rfl T.MOST_CASES) (nomark _)) (pss_one (ps_ret (pe_lst (pa_cons (C8.pe_gc rfl T.TOO_MANY) pa_nil)))) pss_nil)
      (pss_cons (ps_expr (C8.pe_mt c_note hr (by decide) (pv 0) (pa_cons (pe_tup (pa_cons (pe_fld (pv 0) rfl) (pa_cons (pv 1) pa_nil))) pa_nil)))
      (pss_one (ps_ret (pe_lst (pa_cons (pe_op op_sub (pe_callB call_len_seq (by rfl) T.len PySem.boot_len (pa_cons (pe_fld (pv 0) rfl) pa_nil)) pe_int) pa_nil)))))) pss_nil)
      (pss_cons (ps_asg (pe_ix ix_list (pe_fld (pv 0) rfl) (pv 2) (fun _ _ => rfl)) (pg_tup rfl (pgs_cons (pg_name (i := 3) nd rfl (Or.inl rfl)) (pgs_cons (pg_name (i := 4) nd rfl (Or.inl rfl)) pgs_nil))))
      (pss_cons (ps_expr (C8.pe_mt c_renew hr (by decide) (pv 0) (pa_cons (pv 2) (pa_cons (pe_tup (pa_cons (pv 3) (pa_cons (pe_callB (call_min2 rfl) (by rfl) T.min (by decide +kernel) (pa_cons (pe_op op_add (pv 4) (pv 1)) (pa_cons (C8.pe_gc rfl T.MOST_TIMES) pa_nil))) pa_nil))) pa_nil))))
      (pss_one (ps_ret (pe_lst (pa_cons (pv 2) pa_nil))))))))), ?_⟩
  obtain ⟨_, b, d, Av, k, rfl, o, kb, hQ⟩ := h
  have many := o.many
  have e10 : decide ((k : Int) < 1) = decide (k < 1) := decide_eq_decide.mpr (by omega)
  have eT : EvT (tOr (tTest (tOp (rI0 fun i j => .bl (decide (i < j))) (tVar 1) (tC (.int 1)))) (tTest (tOp (rI0 fun i j => .bl (decide (j < i))) (tVar 1) (tC (.int 100))))) [some (.ref b), some (.int k), none, none, none] H (decide (k < 1) || decide (100 < k)) := by
    refine et_or ?_ fun _ => et_gtN (m := 100) (ev_var rfl) ev_c
    rw [← e10]
    exact et_test (ev_op (ev_var rfl) ev_c rv_I0)
  refine q_when eT (fun hbb H1 e1 => ?_) (fun hbb H1 e1 => ?_)
  · have z : k = 0 ∨ 100 < k := by
      rw [Bool.or_eq_true, decide_eq_true_eq, decide_eq_true_eq] at hbb
      omega
    exact s_retI (xs := [-22]) (el_lst (ea_cons ev_c ea_nil) (by show 1 ≤ 100000; decide)) (hQ.go (kb.mono e1) (AvS.ex e1) (if_pos z))
  have z : ¬ (k = 0 ∨ 100 < k) := by
    rw [Bool.or_eq_false_iff, decide_eq_false_iff_not, decide_eq_false_iff_not] at hbb
    omega
  obtain ⟨dx, cl, rl, ws, kp⟩ := kb.mono e1
  refine q_asg (v := plV (placeOf (d.cases.map (·.1)) d.row)) (ev_callV (ea_cons (ev_var rfl) (ea_cons (ev_fld (ev_var rfl) kp.hb B.cl B.nr bF_row) ea_nil)) fun H2 e2 Q2 k2 E2 => ⟨rfl, b, rl, d, d.row, rfl, o, (kp.mono e2).toQ, e2 _ _ kp.hr, fun H3 e3 => k2 H3 e3⟩) fun H2 e2 => ?_
  have kp2 := kp.mono e2
  by_cases hm : d.row ∈ d.cases.map (·.1)
  · have ep : placeOf (d.cases.map (·.1)) d.row = some (d.cases.findIdx fun c => c.1 == d.row) := by
      unfold placeOf
      rw [if_pos hm, idx_row]
    have hi : (d.cases.findIdx fun c => c.1 == d.row) < d.cases.length := by
      obtain ⟨c, h1, h2⟩ := List.mem_map.mp hm
      exact List.findIdx_lt_length_of_exists ⟨c, h1, beq_iff_eq.mpr h2⟩
    have he : (d.cases[d.cases.findIdx fun c => c.1 == d.row]'hi).1 = d.row := eq_of_beq (List.findIdx_getElem (w := hi))
    have hs : Km522.step (some d) (.close k) = (some ⟨d.cases.set (d.cases.findIdx fun c => c.1 == d.row) (d.row, min 100 ((d.cases[d.cases.findIdx fun c => c.1 == d.row]'hi).2 + k)), [], d.memory⟩, ⟨((d.cases.findIdx fun c => c.1 == d.row) : Nat), []⟩) := by
      show (if k = 0 ∨ 100 < k then _ else if 16 ≤ d.cases.length ∧ (d.cases.any fun c => c.1 == d.row) = false then _ else _) = _
      rw [if_neg z, if_neg (fun q => by rw [any_row, decide_eq_true hm] at q; cases q.2), add1_old o hi he]
      rfl
    rw [ep]
    refine q_when (b := false) (et_test (ev_op (ev_var rfl) ev_c (rv_val fun H1 e1 Q q => ⟨rfl, q⟩))) (fun hb => nomatch hb) fun _ H3 e3 => ?_
    have kp3 := kp2.mono e3
    have hiw : (d.cases.findIdx fun c => c.1 == d.row) < ws.length := by rw [kp3.ct.1]; exact hi
    obtain ⟨t, r, h1, h2, h3, h4, h5, h6, h7⟩ := kp3.ct.2 _ _ _ (List.getElem?_eq_getElem hiw) (List.getElem?_eq_getElem hi)
    refine q_unp2 (t := t) (a := .ref r) (b := .int ((d.cases[d.cases.findIdx fun c => c.1 == d.row]'hi).2 : Nat)) (ev_op (ev_fld (ev_var rfl) kp3.hb B.cl B.nc bF_cases) (ev_var rfl) (rv_ixL (sq_of kp3.hc) (by rw [← h1]; exact atI_nat (List.getElem?_eq_getElem hiw)))) (st_of h2) fun H4 e4 => ?_
    have kp4 := kp3.mono e4
    have em : (if (100 : Int) < (((d.cases[d.cases.findIdx fun c => c.1 == d.row]'hi).2 : Nat) : Int) + (k : Int) then (100 : Int) else (((d.cases[d.cases.findIdx fun c => c.1 == d.row]'hi).2 : Nat) : Int) + (k : Int)) = ((min 100 ((d.cases[d.cases.findIdx fun c => c.1 == d.row]'hi).2 + k) : Nat) : Int) := by
      by_cases c : (100 : Int) < (((d.cases[d.cases.findIdx fun c => c.1 == d.row]'hi).2 : Nat) : Int) + (k : Int)
      · rw [if_pos c, Nat.min_eq_left (by omega)]
        rfl
      · rw [if_neg c, Nat.min_eq_right (by omega)]
        omega
    refine q_methP (ev_var rfl) kp4.hb bF_renew (eap_tup1 (ev_var rfl) (vs := [.ref r, .int ((min 100 ((d.cases[d.cases.findIdx fun c => c.1 == d.row]'hi).2 + k) : Nat) : Int)]) (ea_cons (ev_var rfl) (ea_cons (ev_cb (vs := [.int ((((d.cases[d.cases.findIdx fun c => c.1 == d.row]'hi).2 : Nat) : Int) + (k : Int)), .int 100]) (ea_cons (ev_op (ev_var rfl) (ev_var rfl) rv_I0) (ea_cons ev_c ea_nil)) fun H1 e1 Q q => ⟨_, _, rfl, by rw [em]; exact q H1 (Ex.refl H1)⟩) ea_nil)) (by show 2 ≤ 100000; decide)) fun vs H5 H6 e5 e6 ⟨p, hvs, hp, hx⟩ => ?_
    subst hvs
    have kp6 := kp4.mono (e5.trans e6)
    refine ⟨rfl, b, dx, cl, rl, p, ws, d, Av, _, (d.row, min 100 ((d.cases[d.cases.findIdx fun c => c.1 == d.row]'hi).2 + k)), rfl, kp6, hi, ⟨p, r, rfl, hx, ?_, fun q => (kp4.mono e5).av _ q hp, h5, h6, h7⟩, fun H7 k7 a7 => ?_⟩
    · rw [he] at h3
      exact ((e4.trans e5).trans e6) _ _ h3
    · exact s_retI (xs := [((d.cases.findIdx fun c => c.1 == d.row : Nat) : Int)]) (el_lst (ea_cons (ev_var rfl) ea_nil) (by show 1 ≤ 100000; decide)) (hQ.go k7 ((AvS.ex (((((e1.trans e2).trans e3).trans e4).trans e5).trans e6)).trans a7) hs)
  · have ep : placeOf (d.cases.map (·.1)) d.row = none := by
      unfold placeOf
      rw [if_neg hm]
    rw [ep]
    refine q_when (b := true) (et_test (ev_op (ev_var rfl) ev_c (rv_val fun H1 e1 Q q => ⟨rfl, q⟩))) (fun _ H3 e3 => ?_) (fun hb => nomatch hb)
    have kp3 := kp2.mono e3
    have han : (d.cases.any fun c => c.1 == d.row) = false := by rw [any_row, decide_eq_false hm]
    refine q_refuseG (ev_lenC (ta := tVar 0) B (ev_var rfl) kp3) (ev_c (v := .int ((16 : Nat) : Int))) (fun hy => hQ.go ⟨dx, cl, rl, ws, kp3⟩ (AvS.ex ((e1.trans e2).trans e3)) ((if_neg z).trans (if_pos ⟨hy, han⟩))) fun hl H4 e4 => ?_
    have kp4 := kp3.mono e4
    have fi : (d.cases.findIdx fun c => c.1 == d.row) = d.cases.length := by
      refine List.findIdx_eq_length.mpr fun c hc => ?_
      rw [beq_eq_false_iff_ne]
      exact fun q => hm (List.mem_map.mpr ⟨c, hc, q⟩)
    have hs : Km522.step (some d) (.close k) = (some ⟨d.cases ++ [(d.row, k)], [], d.memory⟩, ⟨(d.cases.length : Nat), []⟩) := by
      show (if k = 0 ∨ 100 < k then _ else if 16 ≤ d.cases.length ∧ (d.cases.any fun c => c.1 == d.row) = false then _ else _) = _
      rw [if_neg z, if_neg (fun q => hl q.1), add1_new hm, fi]
      rfl
    refine q_methP (ev_var rfl) kp4.hb bF_note (eap_tup (vs := [.ref rl, .int (k : Int)]) (ea_cons (ev_fld (ev_var rfl) kp4.hb B.cl B.nr bF_row) (ea_cons (ev_var rfl) ea_nil)) (by show 2 ≤ 100000; decide)) fun vs H5 H6 e5 e6 ⟨p, hvs, hp, hx⟩ => ?_
    subst hvs
    have kp6 := kp4.mono (e5.trans e6)
    refine ⟨rfl, b, dx, cl, rl, p, ws, d, Av, k, rfl, kp6, hx, fun q => (kp4.mono e5).av _ q hp, by rw [kp6.ct.1]; omega, fun H7 k7 a7 => ?_⟩
    obtain ⟨dx7, cl7, rl7, ws7, kp7⟩ := k7
    refine s_retI (xs := [(d.cases.length : Int)]) (el_lst (ea_cons (ev_is (ev_op (ev_lenC (ta := tVar 0) B (ev_var rfl) kp7) ev_c rv_I0) ?_) ea_nil) (by show 1 ≤ 100000; decide)) (hQ.go ⟨dx7, cl7, rl7, ws7, kp7⟩ ((AvS.ex (((((e1.trans e2).trans e3).trans e4).trans e5).trans e6)).trans a7) hs)
    rw [List.length_append]
    show V.int (((d.cases.length + 1 : Nat) : Int) - 1) = _
    congr 1
    omega
end CW
/-! Sizes of within; what the walk tells is what the specification says. -/
namespace CW
open Km522 (n2i mind Desk Case END states onTo from_ fromTo now Frac)
open CN (nst wt tot nxt fr SN)

/-! ### sizes of within -/
structure Fit (d : Desk) (E : Nat → Nat) (ah : List Rat) : Prop where
  len : ah.length = nst d
  is : ∀ j, j < nst d → 0 < E j ∧ ∃ N : Nat, N ≤ E j ∧ ah.getD j 0 * (E j : Rat) = (N : Rat)
theorem SN_up {f : Nat → Nat} {k : Nat} : ∀ {n : Nat}, k ≤ n → SN k f ≤ SN n f
  | 0, h => by
    have : k = 0 := by omega
    rw [this]
    exact Nat.le_refl _
  | n + 1, h => by
    by_cases c : k = n + 1
    · rw [c]
      exact Nat.le_refl _
    · have := SN_up (f := f) (k := k) (n := n) (by omega)
      show SN k f ≤ SN n f + f n
      omega
theorem chq_div (d : Desk) (i a : Nat) : chq d i a = (wt d i a : Rat) / (tot d i : Rat) := CN.mkRat_nat _ _
theorem om_fit {d : Desk} (o : CN.DeskOk d) {E : Nat → Nat} {ah : List Rat} (F : Fit d E ah) {i : Nat} (hi : i < nst d) {E' : Nat} (h0 : 0 < E') (h1 : tot d i ∣ E') (h2 : ∀ a, a < 10 → 0 < wt d i a → tot d i * E (nxt d i a) ∣ E' * wt d i a) :
    ∀ k, k ≤ 10 → ∃ N : Nat, omK d i ah k * (E' : Rat) = (N : Rat) ∧ N * tot d i ≤ E' * (wt d i 10 + SN k (wt d i))
  | 0, _ => by
    obtain ⟨c, hc⟩ := h1
    have tp := CN.tot_pos o hi
    have tr : (tot d i : Rat) ≠ 0 := by
      have := Rat.natCast_pos.mpr tp
      grind
    refine ⟨c * wt d i 10, ?_, ?_⟩
    · show chq d i 10 * (E' : Rat) = _
      rw [chq_div, hc, Rat.natCast_mul, Rat.natCast_mul]
      grind
    · show c * wt d i 10 * tot d i ≤ E' * (wt d i 10 + 0)
      rw [hc, Nat.add_zero]
      exact Nat.le_of_eq (by grind)
  | k + 1, hk => by
    obtain ⟨N, hN, hB⟩ := om_fit o F hi h0 h1 h2 k (by omega)
    have tp := CN.tot_pos o hi
    have tr : (tot d i : Rat) ≠ 0 := by
      have := Rat.natCast_pos.mpr tp
      grind
    rw [omK_succ]
    have hs : SN (k + 1) (wt d i) = SN k (wt d i) + wt d i k := rfl
    by_cases z : chq d i k ≠ 0
    · rw [if_pos z]
      have hw := chq_ne z
      have hn := CN.nxt_lt o (by omega : k < 10) hw
      obtain ⟨e0, M, hM, eM⟩ := F.is _ hn
      obtain ⟨c, hc⟩ := h2 k (by omega) hw
      have er : (E (nxt d i k) : Rat) ≠ 0 := by
        have := Rat.natCast_pos.mpr e0
        grind
      have hcr : (E' : Rat) * (wt d i k : Rat) = (tot d i : Rat) * (E (nxt d i k) : Rat) * (c : Rat) := by
        rw [← Rat.natCast_mul, ← Rat.natCast_mul, ← Rat.natCast_mul, hc]
      refine ⟨N + c * M, ?_, ?_⟩
      · rw [Rat.natCast_add, Rat.natCast_mul, chq_div, ← eM, ← hN]
        generalize omK d i ah k = x at *
        generalize ah.getD (nxt d i k) 0 = y at *
        generalize (E (nxt d i k) : Rat) = e at *
        generalize (wt d i k : Rat) = wv at *
        generalize (tot d i : Rat) = t at *
        have : (wv / t * y) * (E' : Rat) = c * (y * e) := by
          have h3 : wv / t * y * (E' : Rat) = ((E' : Rat) * wv) / t * y := by grind
          rw [h3, hcr]
          grind
        grind
      · rw [hs]
        have h3 : c * M * tot d i ≤ E' * wt d i k := by
          rw [hc]
          have : c * M ≤ c * E (nxt d i k) := Nat.mul_le_mul_left _ hM
          calc c * M * tot d i ≤ c * E (nxt d i k) * tot d i := Nat.mul_le_mul_right _ this
            _ = tot d i * E (nxt d i k) * c := by grind
        calc (N + c * M) * tot d i = N * tot d i + c * M * tot d i := Nat.add_mul ..
          _ ≤ E' * (wt d i 10 + SN k (wt d i)) + E' * wt d i k := Nat.add_le_add hB h3
          _ = E' * (wt d i 10 + (SN k (wt d i) + wt d i k)) := by grind
    · rw [if_neg z]
      refine ⟨N, hN, Nat.le_trans hB (Nat.mul_le_mul_left _ (by omega))⟩
theorem om_le {d : Desk} (o : CN.DeskOk d) {E : Nat → Nat} {ah : List Rat} (F : Fit d E ah) {i : Nat} (hi : i < nst d) {E' : Nat} (h0 : 0 < E') (h1 : tot d i ∣ E') (h2 : ∀ a, a < 10 → 0 < wt d i a → tot d i * E (nxt d i a) ∣ E' * wt d i a)
    {k : Nat} (hk : k ≤ 10) : ∃ N : Nat, N ≤ E' ∧ omK d i ah k * (E' : Rat) = (N : Rat) := by
  obtain ⟨N, hN, hB⟩ := om_fit o F hi h0 h1 h2 k hk
  refine ⟨N, ?_, hN⟩
  have tp := CN.tot_pos o hi
  have e : tot d i = SN 10 (wt d i) + wt d i 10 := CN.from_split o _
  have u := SN_up (f := wt d i) hk
  refine Nat.le_of_mul_le_mul_right (Nat.le_trans hB ?_) tp
  exact Nat.mul_le_mul_left _ (by omega)
theorem sz_fit {r : Rat} {E N : Nat} (h0 : 0 < E) (hN : N ≤ E) (he : r * (E : Rat) = (N : Rat)) (hE : E < 2 ^ 2000) : 0 ≤ r ∧ Sz r 2000 := by
  have er : (E : Rat) ≠ 0 := by
    have := Rat.natCast_pos.mpr h0
    grind
  have e : r = mkRat (N : Int) ((E : Int)).toNat := by
    rw [Int.toNat_natCast, CN.mkRat_nat, ← he]
    grind
  refine ⟨?_, ?_⟩
  · rw [e, Int.toNat_natCast, CN.mkRat_nat]
    exact CN.div_nn Rat.natCast_nonneg Rat.natCast_nonneg
  · rw [e]
    exact sz_mk (by omega) (by rw [Int.natAbs_natCast]; omega) (by rw [Int.natAbs_natCast]; exact hE)
def PN : Nat → (Nat → Nat) → Nat
  | 0, _ => 1
  | n + 1, f => PN n f * f n
theorem PN_dvd {f : Nat → Nat} {i : Nat} : ∀ {n : Nat}, i < n → f i ∣ PN n f
  | n + 1, h => by
    by_cases c : i = n
    · subst c
      exact Nat.dvd_mul_left _ _
    · exact Nat.dvd_mul_right_of_dvd (PN_dvd (by omega)) _
theorem PN_pos {f : Nat → Nat} : ∀ {n : Nat}, (∀ i, i < n → 0 < f i) → 0 < PN n f
  | 0, _ => Nat.one_pos
  | n + 1, h => Nat.mul_pos (PN_pos fun i hi => h i (by omega)) (h n (by omega))
theorem PN_le {f : Nat → Nat} {B : Nat} : ∀ {n : Nat}, (∀ i, i < n → f i ≤ B) → PN n f ≤ B ^ n
  | 0, _ => by show 1 ≤ B ^ 0; rw [Nat.pow_zero]; exact Nat.le_refl _
  | n + 1, h => by
    show PN n f * f n ≤ B ^ (n + 1)
    rw [Nat.pow_succ]
    exact Nat.mul_le_mul (PN_le fun i hi => h i (by omega)) (h n (by omega))
def Ek (d : Desk) (k j : Nat) : Nat := if d.memory = 2 then tot d j else PN (nst d) (tot d) ^ (k + 1)
theorem Ek_pos {d : Desk} (o : CN.DeskOk d) {k j : Nat} (hj : j < nst d) : 0 < Ek d k j := by
  unfold Ek
  split
  · exact CN.tot_pos o hj
  · exact Nat.pow_pos (PN_pos fun i hi => CN.tot_pos o hi)
theorem Ek_tot {d : Desk} {k j : Nat} (hj : j < nst d) : tot d j ∣ Ek d k j := by
  unfold Ek
  split
  · exact Nat.dvd_refl _
  · rw [Nat.pow_succ]
    exact Nat.dvd_mul_left_of_dvd (PN_dvd hj) _
theorem Ek_step {d : Desk} (o : CN.DeskOk d) {k i a : Nat} (hi : i < nst d) (ha : a < 10) (hw : 0 < wt d i a) : tot d i * Ek d k (nxt d i a) ∣ Ek d (k + 1) i * wt d i a := by
  unfold Ek
  split
  · rename_i hm
    have e : tot d (nxt d i a) = wt d i a := by
      unfold tot
      have e1 : CN.st d (nxt d i a) = onTo d (CN.st d i) a := CN.st_find (CN.onTo_mem o ha hw)
      rw [e1]
      unfold onTo
      rw [hm, CN.mind_two]
      exact CN.tree hm ha
    rw [e]
    exact Nat.dvd_refl _
  · rw [Nat.pow_succ (n := PN (nst d) (tot d)) (m := k + 1), Nat.mul_comm (tot d i)]
    exact Nat.dvd_mul_right_of_dvd (Nat.mul_dvd_mul (Nat.dvd_refl _) (PN_dvd hi)) _
theorem Ek_lt {d : Desk} (o : CN.DeskOk d) {k j : Nat} (hk : k ≤ 6) : Ek d k j < 2 ^ 2000 := by
  unfold Ek
  split
  · refine Nat.lt_of_le_of_lt (CN.from_le o _) (Nat.lt_of_lt_of_le (by decide : 14400 < 2 ^ 14) (Nat.pow_le_pow_right (by decide) (by decide)))
  · rename_i hm
    have l1 : PN (nst d) (tot d) ≤ 14400 ^ 11 := Nat.le_trans (PN_le fun i _ => CN.from_le o _) (Nat.pow_le_pow_right (by decide) (CN.states_few o hm))
    have l2 : PN (nst d) (tot d) ^ (k + 1) ≤ (14400 ^ 11) ^ (k + 1) := Nat.pow_le_pow_left l1 _
    have l3 : (14400 ^ 11) ^ (k + 1) ≤ (14400 ^ 11) ^ 7 := Nat.pow_le_pow_right (by decide) (by omega)
    have l4 : (14400 ^ 11) ^ 7 < 2 ^ 2000 := by decide +kernel
    omega
theorem wi_zero {d : Desk} {i : Nat} (hi : i < nst d) : (wiL d 0).getD i 0 = chq d i 10 := by
  unfold wiL
  rw [List.getD_eq_getElem?_getD, List.getElem?_map, List.getElem?_range hi]
  rfl
theorem wi_succ {d : Desk} {i k : Nat} (hi : i < nst d) : (wiL d (k + 1)).getD i 0 = omK d i (wiL d k) 10 := by
  show ((List.range (nst d)).map fun i => omK d i (wiL d k) 10).getD i 0 = _
  rw [List.getD_eq_getElem?_getD, List.getElem?_map, List.getElem?_range hi]
  rfl
theorem wi_fit {d : Desk} (o : CN.DeskOk d) : ∀ k, Fit d (Ek d k) (wiL d k)
  | 0 => ⟨wiL_len d 0, fun j hj => ⟨Ek_pos o hj, by
    rw [wi_zero hj]
    obtain ⟨c, hc⟩ := Ek_tot (k := 0) hj
    have tp := CN.tot_pos o hj
    have tr : (tot d j : Rat) ≠ 0 := by
      have := Rat.natCast_pos.mpr tp
      grind
    have hw : wt d j 10 ≤ tot d j := CN.fromTo_le o _ _
    refine ⟨c * wt d j 10, ?_, ?_⟩
    · rw [hc, Nat.mul_comm c]
      exact Nat.mul_le_mul_right _ hw
    · rw [chq_div, hc, Rat.natCast_mul, Rat.natCast_mul]
      grind⟩⟩
  | k + 1 => ⟨wiL_len d (k + 1), fun j hj => ⟨Ek_pos o hj, by
    rw [wi_succ hj]
    exact om_le o (wi_fit o k) hj (Ek_pos o hj) (Ek_tot hj) (fun a ha hw => Ek_step o hj ha hw) (Nat.le_refl 10)⟩⟩
theorem ah_ok {d : Desk} (o : CN.DeskOk d) : ∀ j, j < 6 → AhOk d (wiL d j) := fun j hj => by
  have F := wi_fit o j
  refine ⟨F.len, fun i hi => ?_, fun i k hi hk => ?_⟩
  · obtain ⟨h0, N, h1, h2⟩ := F.is i hi
    exact sz_fit h0 h1 h2 (Ek_lt o (by omega))
  · obtain ⟨N, h1, h2⟩ := om_le o F hi (Ek_pos (k := j + 1) o hi) (Ek_tot hi) (fun a ha hw => Ek_step o hi ha hw) hk
    exact sz_fit (Ek_pos o hi) h1 h2 (Ek_lt o (by omega))

/-! ### the specification's values -/
section
variable {d : Desk}
theorem ch_is (s : List Nat) (a : Nat) : Km522.chance d s a = fr (chS d s a) := CN.mk_fr _ _
theorem chS_div (s : List Nat) (a : Nat) : chS d s a = (fromTo d s a : Rat) / (from_ d s : Rat) := CN.mkRat_nat _ _
theorem chS_st (i a : Nat) : chS d (CN.st d i) a = chq d i a := rfl
theorem awaited_is (o : CN.DeskOk d) {i : Nat} (hi : i < nst d) : Km522.awaited d (CN.st d i) = fr ((CN.xsol d 10 (gAw d)).getD i 0) := by
  refine CN.value_eq o (fun a ha => ?_) (fun s hs => ?_) hi
  · exact (beq_eq_false_iff_ne.mpr (by omega)).symm
  · rw [ch_is, CN.one_fr, CN.sub_fr, chS_div]
    have fp := (CN.from_pos o).mpr hs
    have fr0 : (from_ d s : Rat) ≠ 0 := by
      have := Rat.natCast_pos.mpr fp
      grind
    have hle := CN.fromTo_le o s 10
    have e : (gAw d s : Rat) = (from_ d s : Rat) - (fromTo d s 10 : Rat) := by
      have h : gAw d s + fromTo d s 10 = from_ d s := by unfold gAw; omega
      rw [← h, Rat.natCast_add]
      grind
    rw [e]
    congr 1
    show 1 - (fromTo d s 10 : Rat) / (from_ d s : Rat) = _
    grind
theorem comes_is (o : CN.DeskOk d) {i a : Nat} (hi : i < nst d) : Km522.comes d a (CN.st d i) = fr (cq d i a) := by
  refine CN.value_eq o (fun _ _ => rfl) (fun s hs => ?_) hi
  exact CN.chance_fr s a
theorem visits_is (o : CN.DeskOk d) {i a : Nat} (hi : i < nst d) : Km522.visits d a (CN.st d i) = fr (vq d i a) := by
  refine CN.value_eq o (fun b hb => (beq_eq_false_iff_ne.mpr (by omega)).symm) (fun s hs => ?_) hi
  exact CN.chance_fr s a
theorem omK_sum (i : Nat) (ah : List Rat) : ∀ k, omK d i ah k = chq d i 10 + (((List.range k).filter fun a => decide (chq d i a ≠ 0)).map fun a => chq d i a * ah.getD (nxt d i a) 0).sum
  | 0 => by
    show chq d i 10 = chq d i 10 + 0
    grind
  | k + 1 => by
    rw [omK_succ, omK_sum i ah k, List.range_succ, List.filter_append, List.map_append, List.sum_append]
    by_cases z : chq d i k ≠ 0
    · rw [if_pos z, List.filter_cons, if_pos (decide_eq_true z)]
      show _ = _ + (_ + (_ + (0 : Rat)))
      grind
    · rw [if_neg z, List.filter_cons, if_neg (by rw [decide_eq_true_eq]; exact z)]
      show _ = _ + (_ + (0 : Rat))
      grind
theorem within_is (o : CN.DeskOk d) : ∀ (k : Nat) {i : Nat}, i < nst d → Km522.within d k (CN.st d i) = fr ((wiL d k).getD i 0)
  | 0, i, hi => by
    rw [wi_zero hi]
    exact ch_is _ _
  | k + 1, i, hi => by
    rw [wi_succ hi, omK_sum]
    show Km522.add (Km522.chance d (CN.st d i) 10) (Km522.sumF (((List.range 10).filter fun a => fromTo d (CN.st d i) a != 0).map fun a => Km522.mul (Km522.chance d (CN.st d i) a) (Km522.within d k (onTo d (CN.st d i) a)))) = _
    have ef : ((List.range 10).filter fun a => fromTo d (CN.st d i) a != 0) = (List.range 10).filter fun a => decide (chq d i a ≠ 0) := by
      refine List.filter_congr fun a _ => ?_
      rw [Bool.eq_iff_iff, bne_iff_ne, decide_eq_true_eq]
      have := chq_zero o (a := a) hi
      exact ⟨fun h z => h (this.mp z), fun h z => h (this.mpr z)⟩
    have em : (((List.range 10).filter fun a => decide (chq d i a ≠ 0)).map fun a => Km522.mul (Km522.chance d (CN.st d i) a) (Km522.within d k (onTo d (CN.st d i) a))) = (((List.range 10).filter fun a => decide (chq d i a ≠ 0)).map fun a => chq d i a * (wiL d k).getD (nxt d i a) 0).map fr := by
      rw [List.map_map]
      refine List.map_congr_left fun a ha => ?_
      rw [List.mem_filter, List.mem_range, decide_eq_true_eq] at ha
      have hw := chq_ne ha.2
      have e1 : onTo d (CN.st d i) a = CN.st d (nxt d i a) := (CN.st_find (CN.onTo_mem o ha.1 hw)).symm
      show _ = fr (chq d i a * (wiL d k).getD (nxt d i a) 0)
      rw [e1, within_is o k (CN.nxt_lt o ha.1 hw), ch_is, CN.mul_fr]
      rfl
    rw [ef, em, CN.sumF_fr, ch_is, CN.add_fr]
    rfl
theorem foldl_le {f g : Nat → Nat → Nat} {k : Nat} (h0 : ∀ j, j ≤ k → (List.range j).foldl g 0 < 10) (h : ∀ b a, b < 10 → a < k → f b a = g b a) : (List.range k).foldl f 0 = (List.range k).foldl g 0 := by
  induction k with
  | zero => rfl
  | succ k ih =>
    rw [List.range_succ, List.foldl_append, List.foldl_append, ih (fun j hj => h0 j (by omega)) fun b a hb ha => h b a hb (by omega)]
    exact h _ _ (h0 k (by omega)) (by omega)
theorem surest_is (o : CN.DeskOk d) {i : Nat} (hi : i < nst d) : Km522.surest d (CN.st d i) = surB d i 10 := by
  refine foldl_le (fun j hj => surB_lt d i j hj) fun b a hb ha => ?_
  rw [comes_is o hi, comes_is o hi, CN.less_fr]
  by_cases c : cq d i b < cq d i a
  · rw [if_pos c, if_pos (decide_eq_true c)]
  · rw [if_neg c, if_neg (by rw [decide_eq_true_eq]; exact c)]
def gK (d : Desk) : List Nat → List Nat → Rat
  | _, [] => 1
  | p, a :: l => chS d (mind d.memory p) a * gK d (p ++ [a]) l
theorem row_gK : ∀ (l p : List Nat), Km522.rowChance d (mind d.memory p) l = fr (gK d p l)
  | [], p => rfl
  | a :: l, p => by
    show Km522.mul (Km522.chance d (mind d.memory p) a) (Km522.rowChance d (onTo d (mind d.memory p) a) l) = _
    unfold onTo
    rw [CN.mind_mind, row_gK l (p ++ [a]), ch_is, CN.mul_fr]
    rfl
theorem bg_gK : ∀ (l p : List Nat), bgK d (p ++ l) (p.length + l.length) = bgK d (p ++ l) p.length * gK d p l
  | [], p => by
    show _ = _ * (1 : Rat)
    rw [List.length_nil, Nat.add_zero]
    grind
  | a :: l, p => by
    have e := bg_gK l (p ++ [a])
    rw [List.append_assoc, List.length_append] at e
    have e2 : p.length + [a].length + l.length = p.length + (a :: l).length := by
      rw [List.length_cons, List.length_cons, List.length_nil]
      omega
    rw [e2] at e
    have e3 : p ++ ([a] ++ l) = p ++ a :: l := rfl
    rw [e3] at e
    rw [e]
    show bgK d (p ++ a :: l) (p.length + 1) * _ = _ * (chS d (mind d.memory p) a * gK d (p ++ [a]) l)
    rw [bgK_succ]
    have t1 : (p ++ a :: l).take p.length = p := by rw [List.take_append_of_le_length (Nat.le_refl _), List.take_length]
    have t2 : (p ++ a :: l).getD p.length 0 = a := by
      rw [List.getD_eq_getElem?_getD, List.getElem?_append_right (Nat.le_refl _), Nat.sub_self]
      rfl
    rw [t1, t2]
    by_cases z : bgK d (p ++ a :: l) p.length ≠ 0
    · rw [if_pos z]
      grind
    · rw [if_neg z]
      have z : bgK d (p ++ a :: l) p.length = 0 := by
        by_cases q : bgK d (p ++ a :: l) p.length = 0
        · exact q
        · exact absurd q z
      rw [z]
      grind
theorem row_is (row : List Nat) : Km522.rowChance d [] row = fr (bgK d row row.length) := by
  have e := row_gK (d := d) row []
  rw [CN.mind_nil] at e
  rw [e]
  have e2 := bg_gK (d := d) row []
  rw [List.nil_append, List.length_nil, Nat.zero_add] at e2
  rw [e2]
  show fr _ = fr (1 * _)
  congr 1
  grind
theorem whole_is (row : List Nat) : Km522.mul (Km522.rowChance d [] row) (Km522.chance d (mind d.memory row) END) = fr (whQ d row) := by
  rw [row_is, ch_is, CN.mul_fr]
  unfold whQ
  by_cases z : bgK d row row.length = 0
  · rw [if_pos z, z]
    congr 1
    grind
  · rw [if_neg z]
    rfl

/-! ### the specification's answers -/
def al (a : Km522.Ans) : List Int := a.num :: a.nums
theorem al_fr (r : Rat) : al (Km522.frac (fr r)) = frI r := rfl
theorem known_is (o : CN.DeskOk d) {a : Unit → Km522.Ans} {xs : List Int} (h : now d ∈ states d → al (a ()) = xs) : al (Km522.ifKnown d a) = kn d xs := by
  unfold Km522.ifKnown Km522.isKnown kn
  by_cases c : now d ∈ states d
  · rw [if_pos c, if_pos (decide_eq_true ((CN.from_pos o).mpr c)), h c]
  · rw [if_neg c, if_neg (by rw [decide_eq_true_eq, CN.from_pos o]; exact c)]
    rfl
/-- the look's answer -/
def an (d : Desk) (c : Km522.Call) : List Int := al (Km522.step (some d) c).2
theorem an_ite {p q : Prop} [Decidable p] [Decidable q] {a : Km522.Ans} {n : Int} {xs : List Int} (h : p ↔ q) (e : al a = xs) : al (if p then Km522.say n else a) = if q then [n] else xs := by
  by_cases c : p
  · rw [if_pos c, if_pos (h.mp c)]
    rfl
  · rw [if_neg c, if_neg (fun z => c (h.mpr z)), e]
theorem an_states : an d .states = [(nst d : Int)] := rfl
theorem an_known : an d .known = [(from_ d (now d) : Int)] := rfl
theorem an_rows : an d .rows = (d.cases.length : Int) :: n2i (d.cases.map (·.2)) := rfl
theorem an_next (o : CN.DeskOk d) (a : Nat) : an d (.next a) = if 10 < a then [-22] else kn d (frI (chq d (ix d) a)) := by
  refine an_ite Iff.rfl (known_is o fun h => ?_)
  rw [ch_is, al_fr, ← st_ix h]
  rfl
theorem an_likeliest (o : CN.DeskOk d) : an d .likeliest = kn d [(Km522.likeliest d (now d) : Int)] := known_is o fun _ => rfl
theorem an_nexts (o : CN.DeskOk d) : an d .nexts = kn d (((nxL d).length : Int) :: n2i (nxL d)) := known_is o fun _ => rfl
theorem an_awaited (o : CN.DeskOk d) : an d .awaited = kn d (frI ((CN.xsol d 10 (gAw d)).getD (ix d) 0)) := known_is o fun h => by
  rw [← st_ix h, awaited_is o (ix_lt h)]
  rfl
theorem an_comes (o : CN.DeskOk d) (a : Nat) : an d (.comes a) = if 9 < a then [-22] else kn d (frI (cq d (ix d) a)) := by
  refine an_ite (by show 10 ≤ a ↔ 9 < a; omega) (known_is o fun h => ?_)
  rw [← st_ix h, comes_is o (ix_lt h)]
  rfl
theorem an_visits (o : CN.DeskOk d) (a : Nat) : an d (.visits a) = if 9 < a then [-22] else kn d (frI (vq d (ix d) a)) := by
  refine an_ite (by show 10 ≤ a ↔ 9 < a; omega) (known_is o fun h => ?_)
  rw [← st_ix h, visits_is o (ix_lt h)]
  rfl
theorem an_within (o : CN.DeskOk d) (k : Nat) : an d (.within k) = if 6 < k then [-22] else kn d (frI ((wiL d k).getD (ix d) 0)) := by
  refine an_ite Iff.rfl (known_is o fun h => ?_)
  rw [← st_ix h, within_is o k (ix_lt h)]
  rfl
theorem an_surest (o : CN.DeskOk d) : an d .surest = kn d ((surB d (ix d) 10 : Int) :: frI (cq d (ix d) (surB d (ix d) 10))) := by
  refine known_is o fun h => ?_
  rw [← st_ix h]
  show [((Km522.surest d (CN.st d (ix d)) : Nat) : Int), (Km522.comes d (Km522.surest d (CN.st d (ix d))) (CN.st d (ix d))).n, ((Km522.comes d (Km522.surest d (CN.st d (ix d))) (CN.st d (ix d))).d : Int)] = _
  rw [surest_is o (ix_lt h), comes_is o (ix_lt h)]
  rfl
theorem an_ifnext (o : CN.DeskOk d) (a : Nat) : an d (.ifNext a) = if 9 < a then [-22] else kn d (if fromTo d (now d) a = 0 then [-6] else frI ((CN.xsol d 10 (gAw d)).getD (nxt d (ix d) a) 0)) := by
  by_cases c : 9 < a
  · rw [if_pos c]
    show al (if 10 ≤ a then _ else _) = _
    rw [if_pos (by omega)]
    rfl
  · rw [if_neg c]
    show al (if 10 ≤ a then _ else _) = _
    rw [if_neg (by omega)]
    refine known_is o fun h => ?_
    by_cases z : fromTo d (now d) a = 0
    · rw [if_pos z, if_pos z]
      rfl
    · rw [if_neg z, if_neg z]
      have hw : 0 < wt d (ix d) a := by
        unfold wt
        rw [st_ix h]
        omega
      have nl := CN.nxt_lt o (by omega : a < 10) hw
      have e : CN.st d (nxt d (ix d) a) = onTo d (CN.st d (ix d)) a := CN.st_find (CN.onTo_mem o (by omega) hw)
      have q := awaited_is o nl
      rw [e, st_ix h] at q
      rw [q]
      rfl
theorem an_rowchance : an d .rowChance = kc d (frI (bgK d d.row d.row.length)) := by
  refine an_ite Iff.rfl ?_
  rw [row_is]
  rfl
theorem an_wholechance : an d .wholeChance = kc d (frI (whQ d d.row)) := by
  refine an_ite Iff.rfl ?_
  show al (Km522.frac (Km522.mul (Km522.rowChance d [] d.row) (Km522.chance d (mind d.memory d.row) END))) = _
  rw [whole_is]
  rfl
theorem an_frombegin (o : CN.DeskOk d) : an d .fromBegin = kc d (frI ((CN.xsol d 10 (gAw d)).getD (ix0 d) 0)) := by
  unfold kc
  by_cases c : d.cases = []
  · rw [if_pos c]
    show al (if d.cases = [] then _ else _) = _
    rw [if_pos c]
    rfl
  · rw [if_neg c]
    show al (if d.cases = [] then _ else _) = _
    rw [if_neg c]
    have m := CN.nil_mem c
    have e : CN.st d (ix0 d) = [] := CN.st_find m
    have q := awaited_is o (CN.find_lt m)
    rw [CN.st_find m] at q
    rw [q]
    rfl
end
end CW
/-! The calls, one by one. -/
namespace CW
open PySem PySem.Spec PyProof.Rows L2 Evl
open Km522 (n2i mind Desk Case END states onTo from_ fromTo now)
open CN (Stp thg tab trow stepsOf nst wt tot nxt)

def cc (p g : Nat) : Km522.Call := match p with
  | 0 => .begin_
  | 1 => .memory g
  | 2 => .put g
  | 3 => .back
  | 4 => .clear
  | 5 => .close g
  | 6 => .drop g
  | 7 => .rows
  | 8 => .known
  | 9 => .next g
  | 10 => .likeliest
  | 11 => .nexts
  | 12 => .awaited
  | 13 => .comes g
  | 14 => .within g
  | 15 => .rowChance
  | 16 => .wholeChance
  | 17 => .fromBegin
  | 18 => .visits g
  | 19 => .surest
  | 20 => .ifNext g
  | _ => .states
section
variable {C : Addr} {H H1 : Hp} {b : Addr} {d : Desk} {Av : Addr → Prop} {c : Km522.Call} {Q : VK}
theorem StP.mono (h : StP C H b d Av c Q) (e : Ex H H1) : StP C H1 b d Av c Q := fun d' a q p H2 k v np hx => h d' a q p H2 k ((AvS.ex e).trans v) np hx
theorem StP.look {xs : List Int} (h : StP C H b d Av c Q) (k : Bk C H b d Av) (e1 : (Km522.step (some d) c).1 = some d) (e2 : an d c = xs) : NewI H xs Q := by
  have q := h d (Km522.step (some d) c).2 (Prod.ext e1 rfl)
  have q2 := Cmd.new k AvS.refl q
  rw [← e2]
  exact q2
end
section
variable {σ : L2.St} {H : Hp} {D : Ends} {ta : TA} {vs : List V} {sp : Sp} {E : XK}
theorem s_retC (h : EvA ta σ H vs) (k : ∀ H1, Ex H H1 → sp vs H1 D.rt E) : tRet (tCall sp [] E ta) D σ H := h H (Ex.refl H) _ fun H1 e1 => by
  show sp (vs ++ []) H1 D.rt E
  rw [List.append_nil]
  exact k H1 e1
end
theorem et_eqN {σ : L2.St} {H : Hp} {ta tb : TE} {i j : Nat} (ha : Ev ta σ H (.int (i : Int))) (hb : Ev tb σ H (.int (j : Int))) : EvT (tTest (tOp rEq ta tb)) σ H (decide (i = j)) := by
  have e : decide ((i : Int) = (j : Int)) = decide (i = j) := decide_eq_decide.mpr (by omega)
  rw [← e]
  exact et_eqI ha hb
/-- if call == j: return .. -/
theorem q_case {σ : L2.St} {H : Hp} {D : Ends} {tz tu : TS} {p j : Nat} {tp : TE} (h : Ev tp σ H (.int (p : Int))) (h1 : p = j → ∀ H1, Ex H H1 → tu { D with nx := tz D } σ H1) (h2 : p ≠ j → ∀ H1, Ex H H1 → tz D σ H1) : tSeq (tIfS (tTest (tOp rEq tp (tC (.int (j : Int))))) tu tNext) tz D σ H :=
  q_when (et_eqN h ev_c) (fun hb => h1 (of_decide_eq_true hb)) (fun hb => h2 (of_decide_eq_false hb))
def sp_answer_keeping (K : PySem.W.Frag) (C : Addr) : Sp := fun vs H Q _ => vs.length = 3 ∧ ∃ (b : Addr) (d : Desk) (Av : Addr → Prop) (p g : Nat), vs = [.ref b, .int p, .int g] ∧ 1 ≤ p ∧ p ≤ 7 ∧ CN.DeskOk d ∧ Bk C H b d Av ∧ StP C H b d Av (cc p g) Q
theorem sc_answer_keeping : FnScope ["book", "call", "given"] ["book", "call", "given"] (defScope (top 77)) := ⟨rfl, rfl, rfl, by decide +kernel, rfl, by decide +kernel, by decide +kernel⟩
theorem cal_answer_keeping {P : Program} {w : World} {K : PySem.W.Frag} {mg : Str → Option Value} {base : Heap} {C : Addr} (B : BkT K mg C) (g : Glo K mg "answer_keeping" (top 77)) (T : Txt K mg) (c_back : Cal P w K mg base 1 "back" (sp_back K C)) (c_clear : Cal P w K mg base 1 "clear" (sp_clear K C)) (c_close : Cal P w K mg base 2 "close" (sp_close K C)) (c_drop : Cal P w K mg base 1 "drop" (sp_drop K C)) (c_put : Cal P w K mg base 1 "put" (sp_put K C)) (c_rows : Cal P w K mg base 1 "rows" (sp_rows K C)) (c_set_memory : Cal P w K mg base 1 "set_memory" (sp_set_memory K C)) : Cal P w K mg base 3 "answer_keeping" (sp_answer_keeping K C) := by
  refine cal_by g sc_answer_keeping (fun _ _ _ _ _ _ us hl => match us, hl with | [_, _, _], _ => rfl) (fun vs H Q E h => h.1) fun f cdv A outer s H vs Q E hr h => ?_
  have nd := sc_answer_keeping.nd
  refine ⟨_, (pss_cons (ps_if (pt_cmpR op_eq (pv 1) pe_int (nomark _)) (pss_one (ps_ret (C8.pe_c c_set_memory hr (by decide) rfl (pa_cons (pv 0) (pa_cons (pv 2) pa_nil))))) pss_nil)
      (pss_cons (ps_if (pt_cmpR op_eq (pv 1) pe_int (nomark _)) (pss_one (ps_ret (C8.pe_c c_put hr (by decide) rfl (pa_cons (pv 0) (pa_cons (pv 2) pa_nil))))) pss_nil)
      (pss_cons (ps_if (pt_cmpR op_eq (pv 1) pe_int (nomark _)) (pss_one (ps_ret (C8.pe_c c_back hr (by decide) rfl (pa_cons (pv 0) pa_nil)))) pss_nil)
      (pss_cons (ps_if (pt_cmpR op_eq (pv 1) pe_int (nomark _)) (pss_one (ps_ret (C8.pe_c c_clear hr (by decide) rfl (pa_cons (pv 0) pa_nil)))) pss_nil)
      (pss_cons (ps_if (pt_cmpR op_eq (pv 1) pe_int (nomark _)) (pss_one (ps_ret (C8.pe_c c_close hr (by decide) rfl (pa_cons (pv 0) (pa_cons (pv 2) pa_nil))))) pss_nil)
      (pss_cons (ps_if (pt_cmpR op_eq (pv 1) pe_int (nomark _)) (pss_one (ps_ret (C8.pe_c c_drop hr (by decide) rfl (pa_cons (pv 0) (pa_cons (pv 2) pa_nil))))) pss_nil)
      (pss_one (ps_ret (C8.pe_c c_rows hr (by decide) rfl (pa_cons (pv 0) pa_nil)))))))))), ?_⟩
  obtain ⟨_, b, d, Av, p, g, rfl, h1, h7, o, kb, hQ⟩ := h
  refine q_case (j := 1) (ev_var rfl) (fun z H1 e1 => ?_) fun z1 H1 e1 => ?_
  · subst z
    exact s_retC (ea_cons (ev_var rfl) (ea_cons (ev_var rfl) ea_nil)) fun H2 e2 => ⟨rfl, b, d, Av, g, rfl, o, kb.mono (e1.trans e2), hQ.mono (e1.trans e2)⟩
  refine q_case (j := 2) (ev_var rfl) (fun z H2 e2 => ?_) fun z2 H2 e2 => ?_
  · subst z
    exact s_retC (ea_cons (ev_var rfl) (ea_cons (ev_var rfl) ea_nil)) fun H3 e3 => ⟨rfl, b, d, Av, g, rfl, o, kb.mono ((e1.trans e2).trans e3), hQ.mono ((e1.trans e2).trans e3)⟩
  have e2 := e1.trans e2
  refine q_case (j := 3) (ev_var rfl) (fun z H3 e3 => ?_) fun z3 H3 e3 => ?_
  · subst z
    exact s_retC (ea_cons (ev_var rfl) ea_nil) fun H4 e4 => ⟨rfl, b, d, Av, rfl, o, kb.mono ((e2.trans e3).trans e4), hQ.mono ((e2.trans e3).trans e4)⟩
  have e3 := e2.trans e3
  refine q_case (j := 4) (ev_var rfl) (fun z H4 e4 => ?_) fun z4 H4 e4 => ?_
  · subst z
    exact s_retC (ea_cons (ev_var rfl) ea_nil) fun H5 e5 => ⟨rfl, b, d, Av, rfl, o, kb.mono ((e3.trans e4).trans e5), hQ.mono ((e3.trans e4).trans e5)⟩
  have e4 := e3.trans e4
  refine q_case (j := 5) (ev_var rfl) (fun z H5 e5 => ?_) fun z5 H5 e5 => ?_
  · subst z
    exact s_retC (ea_cons (ev_var rfl) (ea_cons (ev_var rfl) ea_nil)) fun H6 e6 => ⟨rfl, b, d, Av, g, rfl, o, kb.mono ((e4.trans e5).trans e6), hQ.mono ((e4.trans e5).trans e6)⟩
  have e5 := e4.trans e5
  refine q_case (j := 6) (ev_var rfl) (fun z H6 e6 => ?_) fun z6 H6 e6 => ?_
  · subst z
    exact s_retC (ea_cons (ev_var rfl) (ea_cons (ev_var rfl) ea_nil)) fun H7 e7 => ⟨rfl, b, d, Av, g, rfl, o, kb.mono ((e5.trans e6).trans e7), hQ.mono ((e5.trans e6).trans e7)⟩
  have z : p = 7 := by omega
  subst z
  exact s_retC (ea_cons (ev_var rfl) ea_nil) fun H7 e7 => ⟨rfl, b, d, rfl, o, (kb.mono ((e5.trans e6).trans e7)).toQ, (hQ.mono ((e5.trans e6).trans e7)).look (kb.mono ((e5.trans e6).trans e7)) rfl an_rows⟩
def sp_answer_next (K : PySem.W.Frag) (C : Addr) : Sp := fun vs H Q _ => vs.length = 3 ∧ ∃ (b : Addr) (d : Desk) (Av : Addr → Prop) (p g : Nat), vs = [.ref b, .int p, .int g] ∧ 8 ≤ p ∧ p ≤ 14 ∧ CN.DeskOk d ∧ Bk C H b d Av ∧ StP C H b d Av (cc p g) Q
theorem sc_answer_next : FnScope ["book", "call", "given"] ["book", "call", "given"] (defScope (top 78)) := ⟨rfl, rfl, rfl, by decide +kernel, rfl, by decide +kernel, by decide +kernel⟩
theorem cal_answer_next {P : Program} {w : World} {K : PySem.W.Frag} {mg : Str → Option Value} {base : Heap} {C : Addr} (B : BkT K mg C) (g : Glo K mg "answer_next" (top 78)) (T : Txt K mg) (c_awaited_told : Cal P w K mg base 7 "awaited_told" (sp_awaited_told K C)) (c_comes_told : Cal P w K mg base 7 "comes_told" (sp_comes_told K C)) (c_known_told : Cal P w K mg base 4 "known_told" (sp_known_told K C)) (c_likeliest_told : Cal P w K mg base 4 "likeliest_told" (sp_likeliest_told K C)) (c_next_told : Cal P w K mg base 4 "next_told" (sp_next_told K C)) (c_nexts_told : Cal P w K mg base 4 "nexts_told" (sp_nexts_told K C)) (c_within_told : Cal P w K mg base 6 "within_told" (sp_within_told K C)) : Cal P w K mg base 8 "answer_next" (sp_answer_next K C) := by
  refine cal_by g sc_answer_next (fun _ _ _ _ _ _ us hl => match us, hl with | [_, _, _], _ => rfl) (fun vs H Q E h => h.1) fun f cdv A outer s H vs Q E hr h => ?_
  have nd := sc_answer_next.nd
  refine ⟨_, (pss_cons (ps_if (pt_cmpR op_eq (pv 1) pe_int (nomark _)) (pss_one (ps_ret (C8.pe_c c_known_told hr (by decide) rfl (pa_cons (pv 0) pa_nil)))) pss_nil)
      (pss_cons (ps_if (pt_cmpR op_eq (pv 1) pe_int (nomark _)) (pss_one (ps_ret (C8.pe_c c_next_told hr (by decide) rfl (pa_cons (pv 0) (pa_cons (pv 2) pa_nil))))) pss_nil)
      (pss_cons (ps_if (pt_cmpR op_eq (pv 1) pe_int (nomark _)) (pss_one (ps_ret (C8.pe_c c_likeliest_told hr (by decide) rfl (pa_cons (pv 0) pa_nil)))) pss_nil)
      (pss_cons (ps_if (pt_cmpR op_eq (pv 1) pe_int (nomark _)) (pss_one (ps_ret (C8.pe_c c_nexts_told hr (by decide) rfl (pa_cons (pv 0) pa_nil)))) pss_nil)
      (pss_cons (ps_if (pt_cmpR op_eq (pv 1) pe_int (nomark _)) (pss_one (ps_ret (C8.pe_c c_awaited_told hr (by decide) rfl (pa_cons (pv 0) pa_nil)))) pss_nil)
      (pss_cons (ps_if (pt_cmpR op_eq (pv 1) pe_int (nomark _)) (pss_one (ps_ret (C8.pe_c c_comes_told hr (by decide) rfl (pa_cons (pv 0) (pa_cons (pv 2) pa_nil))))) pss_nil)
      (pss_one (ps_ret (C8.pe_c c_within_told hr (by decide) rfl (pa_cons (pv 0) (pa_cons (pv 2) pa_nil))))))))))), ?_⟩
  obtain ⟨_, b, d, Av, p, g, rfl, h1, h7, o, kb, hQ⟩ := h
  have e0 := Ex.refl H
  refine q_case (j := 8) (ev_var rfl) (fun z H1 e1 => ?_) fun z8 H1 e1 => ?_
  · subst z
    exact s_retC (ea_cons (ev_var rfl) ea_nil) fun H2 e2 => by
      have e := (e0.trans e1).trans e2
      exact ⟨rfl, b, d, rfl, o, (kb.mono e).toQ, (hQ.mono e).look (kb.mono e) rfl an_known⟩
  have e0 := e0.trans e1
  refine q_case (j := 9) (ev_var rfl) (fun z H1 e1 => ?_) fun z9 H2 e2 => ?_
  · subst z
    exact s_retC (ea_cons (ev_var rfl) (ea_cons (ev_var rfl) ea_nil)) fun H2 e2 => by
      have e := (e0.trans e1).trans e2
      exact ⟨rfl, b, d, g, rfl, o, (kb.mono e).toQ, (hQ.mono e).look (kb.mono e) rfl (an_next o g)⟩
  have e0 := e0.trans e2
  refine q_case (j := 10) (ev_var rfl) (fun z H1 e1 => ?_) fun z10 H3 e3 => ?_
  · subst z
    exact s_retC (ea_cons (ev_var rfl) ea_nil) fun H2 e2 => by
      have e := (e0.trans e1).trans e2
      exact ⟨rfl, b, d, rfl, o, (kb.mono e).toQ, (hQ.mono e).look (kb.mono e) rfl (an_likeliest o)⟩
  have e0 := e0.trans e3
  refine q_case (j := 11) (ev_var rfl) (fun z H1 e1 => ?_) fun z11 H4 e4 => ?_
  · subst z
    exact s_retC (ea_cons (ev_var rfl) ea_nil) fun H2 e2 => by
      have e := (e0.trans e1).trans e2
      exact ⟨rfl, b, d, rfl, o, (kb.mono e).toQ, (hQ.mono e).look (kb.mono e) rfl (an_nexts o)⟩
  have e0 := e0.trans e4
  refine q_case (j := 12) (ev_var rfl) (fun z H1 e1 => ?_) fun z12 H5 e5 => ?_
  · subst z
    exact s_retC (ea_cons (ev_var rfl) ea_nil) fun H2 e2 => by
      have e := (e0.trans e1).trans e2
      exact ⟨rfl, b, d, rfl, o, (kb.mono e).toQ, (hQ.mono e).look (kb.mono e) rfl (an_awaited o)⟩
  have e0 := e0.trans e5
  refine q_case (j := 13) (ev_var rfl) (fun z H1 e1 => ?_) fun z13 H6 e6 => ?_
  · subst z
    exact s_retC (ea_cons (ev_var rfl) (ea_cons (ev_var rfl) ea_nil)) fun H2 e2 => by
      have e := (e0.trans e1).trans e2
      exact ⟨rfl, b, d, g, rfl, o, (kb.mono e).toQ, (hQ.mono e).look (kb.mono e) rfl (an_comes o g)⟩
  have e0 := e0.trans e6
  have z : p = 14 := by omega
  subst z
  exact s_retC (ea_cons (ev_var rfl) (ea_cons (ev_var rfl) ea_nil)) fun H2 e2 => by
    have e := e0.trans e2
    exact ⟨rfl, b, d, g, rfl, o, (kb.mono e).toQ, ah_ok o, (hQ.mono e).look (kb.mono e) rfl (an_within o g)⟩
def sp_answer_whole (K : PySem.W.Frag) (C : Addr) : Sp := fun vs H Q _ => vs.length = 3 ∧ ∃ (b : Addr) (d : Desk) (Av : Addr → Prop) (p g : Nat), vs = [.ref b, .int p, .int g] ∧ 15 ≤ p ∧ p ≤ 21 ∧ CN.DeskOk d ∧ Bk C H b d Av ∧ StP C H b d Av (cc p g) Q
theorem sc_answer_whole : FnScope ["book", "call", "given"] ["book", "call", "given"] (defScope (top 79)) := ⟨rfl, rfl, rfl, by decide +kernel, rfl, by decide +kernel, by decide +kernel⟩
theorem cal_answer_whole {P : Program} {w : World} {K : PySem.W.Frag} {mg : Str → Option Value} {base : Heap} {C : Addr} (B : BkT K mg C) (g : Glo K mg "answer_whole" (top 79)) (T : Txt K mg) (c_frombegin_told : Cal P w K mg base 7 "frombegin_told" (sp_frombegin_told K C)) (c_ifnext_told : Cal P w K mg base 7 "ifnext_told" (sp_ifnext_told K C)) (c_rowchance_told : Cal P w K mg base 5 "rowchance_told" (sp_rowchance_told K C)) (c_states_told : Cal P w K mg base 4 "states_told" (sp_states_told K C)) (c_surest_told : Cal P w K mg base 8 "surest_told" (sp_surest_told K C)) (c_visits_told : Cal P w K mg base 7 "visits_told" (sp_visits_told K C)) (c_wholechance_told : Cal P w K mg base 6 "wholechance_told" (sp_wholechance_told K C)) : Cal P w K mg base 9 "answer_whole" (sp_answer_whole K C) := by
  refine cal_by g sc_answer_whole (fun _ _ _ _ _ _ us hl => match us, hl with | [_, _, _], _ => rfl) (fun vs H Q E h => h.1) fun f cdv A outer s H vs Q E hr h => ?_
  have nd := sc_answer_whole.nd
  refine ⟨_, (pss_cons (ps_if (pt_cmpR op_eq (pv 1) pe_int (nomark _)) (pss_one (ps_ret (C8.pe_c c_rowchance_told hr (by decide) rfl (pa_cons (pv 0) pa_nil)))) pss_nil)
      (pss_cons (ps_if (pt_cmpR op_eq (pv 1) pe_int (nomark _)) (pss_one (ps_ret (C8.pe_c c_wholechance_told hr (by decide) rfl (pa_cons (pv 0) pa_nil)))) pss_nil)
      (pss_cons (ps_if (pt_cmpR op_eq (pv 1) pe_int (nomark _)) (pss_one (ps_ret (C8.pe_c c_frombegin_told hr (by decide) rfl (pa_cons (pv 0) pa_nil)))) pss_nil)
      (pss_cons (ps_if (pt_cmpR op_eq (pv 1) pe_int (nomark _)) (pss_one (ps_ret (C8.pe_c c_visits_told hr (by decide) rfl (pa_cons (pv 0) (pa_cons (pv 2) pa_nil))))) pss_nil)
      (pss_cons (ps_if (pt_cmpR op_eq (pv 1) pe_int (nomark _)) (pss_one (ps_ret (C8.pe_c c_surest_told hr (by decide) rfl (pa_cons (pv 0) pa_nil)))) pss_nil)
      (pss_cons (ps_if (pt_cmpR op_eq (pv 1) pe_int (nomark _)) (pss_one (ps_ret (C8.pe_c c_ifnext_told hr (by decide) rfl (pa_cons (pv 0) (pa_cons (pv 2) pa_nil))))) pss_nil)
      (pss_one (ps_ret (C8.pe_c c_states_told hr (by decide) rfl (pa_cons (pv 0) pa_nil)))))))))), ?_⟩
  obtain ⟨_, b, d, Av, p, g, rfl, h1, h7, o, kb, hQ⟩ := h
  have e0 := Ex.refl H
  refine q_case (j := 15) (ev_var rfl) (fun z H1 e1 => ?_) fun z15 H1 e1 => ?_
  · subst z
    exact s_retC (ea_cons (ev_var rfl) ea_nil) fun H2 e2 => by
      have e := (e0.trans e1).trans e2
      exact ⟨rfl, b, d, rfl, o, (kb.mono e).toQ, (hQ.mono e).look (kb.mono e) rfl an_rowchance⟩
  have e0 := e0.trans e1
  refine q_case (j := 16) (ev_var rfl) (fun z H1 e1 => ?_) fun z16 H2 e2 => ?_
  · subst z
    exact s_retC (ea_cons (ev_var rfl) ea_nil) fun H2 e2 => by
      have e := (e0.trans e1).trans e2
      exact ⟨rfl, b, d, rfl, o, (kb.mono e).toQ, (hQ.mono e).look (kb.mono e) rfl an_wholechance⟩
  have e0 := e0.trans e2
  refine q_case (j := 17) (ev_var rfl) (fun z H1 e1 => ?_) fun z17 H3 e3 => ?_
  · subst z
    exact s_retC (ea_cons (ev_var rfl) ea_nil) fun H2 e2 => by
      have e := (e0.trans e1).trans e2
      exact ⟨rfl, b, d, rfl, o, (kb.mono e).toQ, (hQ.mono e).look (kb.mono e) rfl (an_frombegin o)⟩
  have e0 := e0.trans e3
  refine q_case (j := 18) (ev_var rfl) (fun z H1 e1 => ?_) fun z18 H4 e4 => ?_
  · subst z
    exact s_retC (ea_cons (ev_var rfl) (ea_cons (ev_var rfl) ea_nil)) fun H2 e2 => by
      have e := (e0.trans e1).trans e2
      exact ⟨rfl, b, d, g, rfl, o, (kb.mono e).toQ, (hQ.mono e).look (kb.mono e) rfl (an_visits o g)⟩
  have e0 := e0.trans e4
  refine q_case (j := 19) (ev_var rfl) (fun z H1 e1 => ?_) fun z19 H5 e5 => ?_
  · subst z
    exact s_retC (ea_cons (ev_var rfl) ea_nil) fun H2 e2 => by
      have e := (e0.trans e1).trans e2
      exact ⟨rfl, b, d, rfl, o, (kb.mono e).toQ, (hQ.mono e).look (kb.mono e) rfl (an_surest o)⟩
  have e0 := e0.trans e5
  refine q_case (j := 20) (ev_var rfl) (fun z H1 e1 => ?_) fun z20 H6 e6 => ?_
  · subst z
    exact s_retC (ea_cons (ev_var rfl) (ea_cons (ev_var rfl) ea_nil)) fun H2 e2 => by
      have e := (e0.trans e1).trans e2
      exact ⟨rfl, b, d, g, rfl, o, (kb.mono e).toQ, (hQ.mono e).look (kb.mono e) rfl (an_ifnext o g)⟩
  have e0 := e0.trans e6
  have z : p = 21 := by omega
  subst z
  exact s_retC (ea_cons (ev_var rfl) ea_nil) fun H2 e2 => by
    have e := e0.trans e2
    exact ⟨rfl, b, d, rfl, o, (kb.mono e).toQ, (hQ.mono e).look (kb.mono e) rfl an_states⟩

/-! ### a desk stays good; an answer is short -/
theorem desk_step {d : Desk} (o : CN.DeskOk d) (c : Km522.Call) : ∃ d' a, Km522.step (some d) c = (some d', a) ∧ CN.DeskOk d' := by
  have keep : ∀ a : Km522.Ans, ∃ (d' : Desk) (a' : Km522.Ans), ((some d, a) : Km522.State × Km522.Ans) = (some d', a') ∧ CN.DeskOk d' := fun a => ⟨d, a, rfl, o⟩
  cases c with
  | begin_ => exact ⟨⟨[], [], 1⟩, _, rfl, ⟨Nat.zero_le _, (fun c h => nomatch h), (fun c h => nomatch h), (fun c h => nomatch h), List.nodup_nil, Nat.zero_le _, (fun c h => nomatch h), by decide⟩⟩
  | memory m =>
    by_cases z : 2 < m
    · exact ⟨d, _, if_pos z, o⟩
    · exact ⟨{ d with memory := m }, _, if_neg z, ⟨o.many, o.len, o.act, o.often, o.nd, o.rlen, o.ract, by show m ≤ 2; omega⟩⟩
  | put a =>
    by_cases z : 10 ≤ a
    · exact ⟨d, _, if_pos z, o⟩
    · by_cases y : 8 ≤ d.row.length
      · exact ⟨d, _, (if_neg z).trans (if_pos y), o⟩
      · refine ⟨{ d with row := d.row ++ [a] }, _, (if_neg z).trans (if_neg y), ⟨o.many, o.len, o.act, o.often, o.nd, ?_, ?_, o.mem⟩⟩
        · show (d.row ++ [a]).length ≤ 8
          rw [List.length_append]
          show d.row.length + 1 ≤ 8
          omega
        · intro x hx
          rcases List.mem_append.mp hx with h | h
          · exact o.ract x h
          · rw [List.mem_singleton.mp h]
            omega
  | back =>
    by_cases z : d.row = []
    · exact ⟨d, _, if_pos z, o⟩
    · refine ⟨{ d with row := d.row.take (d.row.length - 1) }, _, if_neg z, ⟨o.many, o.len, o.act, o.often, o.nd, ?_, ?_, o.mem⟩⟩
      · show (d.row.take (d.row.length - 1)).length ≤ 8
        rw [List.length_take]
        have := o.rlen
        omega
      · exact fun x hx => o.ract x (List.mem_of_mem_take hx)
  | clear => exact ⟨{ d with row := [] }, _, rfl, ⟨o.many, o.len, o.act, o.often, o.nd, Nat.zero_le _, (fun c h => nomatch h), o.mem⟩⟩
  | close k =>
    by_cases z : k = 0 ∨ 100 < k
    · exact ⟨d, _, if_pos z, o⟩
    · by_cases y : 16 ≤ d.cases.length ∧ (d.cases.any fun c => c.1 == d.row) = false
      · exact ⟨d, _, (if_neg z).trans (if_pos y), o⟩
      · refine ⟨Km522.add1 d k, _, (if_neg z).trans (if_neg y), ?_⟩
        by_cases hm : d.row ∈ d.cases.map (·.1)
        · have hi : (d.cases.findIdx fun c => c.1 == d.row) < d.cases.length := by
            obtain ⟨c, h1, h2⟩ := List.mem_map.mp hm
            exact List.findIdx_lt_length_of_exists ⟨c, h1, beq_iff_eq.mpr h2⟩
          have he : (d.cases[d.cases.findIdx fun c => c.1 == d.row]'hi).1 = d.row := eq_of_beq (List.findIdx_getElem (w := hi))
          rw [add1_old o hi he]
          have ob := o.often _ (List.getElem_mem hi)
          have om := o.many
          have onn := o.nd
          refine ⟨by rw [List.length_set]; exact om, fun c hc => ?_, fun c hc => ?_, fun c hc => ?_, ?_, Nat.zero_le _, (fun c h => nomatch h), o.mem⟩
          · rcases List.mem_or_eq_of_mem_set hc with h | h
            · exact o.len c h
            · rw [h]
              exact o.rlen
          · rcases List.mem_or_eq_of_mem_set hc with h | h
            · exact o.act c h
            · rw [h]
              exact o.ract
          · rcases List.mem_or_eq_of_mem_set hc with h | h
            · exact o.often c h
            · rw [h]
              show 1 ≤ min 100 _ ∧ min 100 _ ≤ 100
              omega
          · have e : ((d.cases.set (d.cases.findIdx fun c => c.1 == d.row) (d.row, min 100 ((d.cases[d.cases.findIdx fun c => c.1 == d.row]'hi).2 + k))).map (·.1)) = d.cases.map (·.1) := by
              rw [List.map_set]
              refine List.ext_getElem? fun j => ?_
              rw [List.getElem?_set]
              by_cases q : (d.cases.findIdx fun c => c.1 == d.row) = j
              · rw [if_pos q, if_pos (by rw [List.length_map]; omega), ← q, List.getElem?_map, List.getElem?_eq_getElem hi]
                show some d.row = some (d.cases[d.cases.findIdx fun c => c.1 == d.row]'hi).1
                rw [he]
              · rw [if_neg q]
            exact e ▸ onn
        · have y' : d.cases.length < 16 := by
            by_cases q : 16 ≤ d.cases.length
            · exact absurd ⟨q, by rw [any_row, decide_eq_false hm]⟩ y
            · omega
          rw [add1_new hm]
          refine ⟨by rw [List.length_append]; show d.cases.length + 1 ≤ 16; omega, fun c hc => ?_, fun c hc => ?_, fun c hc => ?_, ?_, Nat.zero_le _, (fun c h => nomatch h), o.mem⟩
          · rcases List.mem_append.mp hc with h | h
            · exact o.len c h
            · rw [List.mem_singleton.mp h]
              exact o.rlen
          · rcases List.mem_append.mp hc with h | h
            · exact o.act c h
            · rw [List.mem_singleton.mp h]
              exact o.ract
          · rcases List.mem_append.mp hc with h | h
            · exact o.often c h
            · rw [List.mem_singleton.mp h]
              show 1 ≤ k ∧ k ≤ 100
              omega
          · show (List.map (·.1) (d.cases ++ [(d.row, k)])).Nodup
            rw [List.map_append]
            exact CN.nodup_snoc o.nd hm
  | drop i =>
    by_cases z : d.cases.length ≤ i
    · exact ⟨d, _, if_pos z, o⟩
    · refine ⟨{ d with cases := d.cases.take i ++ d.cases.drop (i + 1) }, _, if_neg z, ?_⟩
      have e : d.cases.take i ++ d.cases.drop (i + 1) = d.cases.eraseIdx i := (List.eraseIdx_eq_take_drop_succ ..).symm
      rw [e]
      have sub := List.eraseIdx_sublist d.cases i
      exact ⟨Nat.le_trans sub.length_le o.many, fun c hc => o.len c (sub.subset hc), fun c hc => o.act c (sub.subset hc), fun c hc => o.often c (sub.subset hc), (sub.map _).nodup o.nd, o.rlen, o.ract, o.mem⟩
  | _ => exact keep _
theorem len_say (n : Int) : (al (Km522.say n)).length ≤ 20 := by show 1 ≤ 20; decide
theorem len_frac (f : Km522.Frac) : (al (Km522.frac f)).length ≤ 20 := by show 2 ≤ 20; decide
theorem len_known {d : Desk} {a : Unit → Km522.Ans} (h : (al (a ())).length ≤ 20) : (al (Km522.ifKnown d a)).length ≤ 20 := by
  unfold Km522.ifKnown
  split
  · exact h
  · exact len_say _
theorem len_ite {p : Prop} [Decidable p] {a b : Km522.Ans} (h1 : (al a).length ≤ 20) (h2 : (al b).length ≤ 20) : (al (if p then a else b)).length ≤ 20 := by
  split
  · exact h1
  · exact h2
theorem len_ite2 {p : Prop} [Decidable p] {a b : Km522.State × Km522.Ans} (h1 : (al a.2).length ≤ 20) (h2 : (al b.2).length ≤ 20) : (al (if p then a else b).2).length ≤ 20 := by
  split
  · exact h1
  · exact h2
theorem ans_len {d : Desk} (o : CN.DeskOk d) (c : Km522.Call) : (al (Km522.step (some d) c).2).length ≤ 20 := by
  have S := len_say
  have F := len_frac
  cases c with
  | begin_ => exact S _
  | memory m => exact len_ite2 (S _) (S _)
  | put a => exact len_ite2 (S _) (len_ite2 (S _) (S _))
  | back => exact len_ite2 (S _) (S _)
  | clear => exact S _
  | close k => exact len_ite2 (S _) (len_ite2 (S _) (S _))
  | drop i => exact len_ite2 (S _) (S _)
  | rows =>
    show ((d.cases.length : Int) :: n2i (d.cases.map (·.2))).length ≤ 20
    rw [List.length_cons, n2i_len, List.length_map]
    have := o.many
    omega
  | known => exact S _
  | next a => exact len_ite (S _) (len_known (F _))
  | likeliest => exact len_known (S _)
  | nexts =>
    refine len_known ?_
    show (((nxL d).length : Int) :: n2i (nxL d)).length ≤ 20
    rw [List.length_cons, n2i_len]
    have := List.length_filter_le (fun a => fromTo d (now d) a != 0) (List.range 11)
    rw [List.length_range] at this
    have e : (nxL d).length ≤ 11 := this
    omega
  | awaited => exact len_known (F _)
  | comes a => exact len_ite (S _) (len_known (F _))
  | within k => exact len_ite (S _) (len_known (F _))
  | rowChance => exact len_ite (S _) (F _)
  | wholeChance => exact len_ite (S _) (F _)
  | fromBegin => exact len_ite (S _) (F _)
  | visits a => exact len_ite (S _) (len_known (F _))
  | surest => exact len_known (by show 3 ≤ 20; decide)
  | ifNext a => exact len_ite (S _) (len_known (len_ite (S _) (F _)))
  | states => exact S _

/-! ### answer -/
def BkO (C : Addr) (H : Hp) (b : Addr) (st : Km522.State) (Av : Addr → Prop) : Prop := match st with
  | none => ∃ dx cl rl m, H b = some (.ins C dx (bF false cl rl m)) ∧ ¬ Av b ∧ ∀ x, Av x → H x ≠ none
  | some d => Bk C H b d Av
theorem BkO.ins {C : Addr} {H : Hp} {b : Addr} {st : Km522.State} {Av : Addr → Prop} (h : BkO C H b st Av) : ∃ dx cl rl m, H b = some (.ins C dx (bF st.isSome cl rl m)) ∧ ¬ Av b ∧ ∀ x, Av x → H x ≠ none := by
  cases st with
  | none => exact h
  | some d =>
    obtain ⟨dx, cl, rl, vs, k⟩ := h
    exact ⟨dx, cl, rl, d.memory, k.hb, k.ab, k.av⟩
theorem BkO.frame {C : Addr} {H H' : Hp} {b : Addr} {st : Km522.State} {Av : Addr → Prop} (h : BkO C H b st Av) (fr : ∀ x o, ¬ Av x → H x = some o → H' x = some o) (av : ∀ x, Av x → H' x ≠ none) : BkO C H' b st Av := by
  cases st with
  | none =>
    obtain ⟨dx, cl, rl, m, h1, h2, h3⟩ := h
    exact ⟨dx, cl, rl, m, fr _ _ h2 h1, h2, av⟩
  | some d =>
    obtain ⟨dx, cl, rl, vs, k⟩ := h
    exact ⟨dx, cl, rl, vs, k.frame fr av⟩
theorem some_mono {H H' : Hp} {x : Addr} (e : ∀ o, H x = some o → H' x = some o) (h : H x ≠ none) : H' x ≠ none := by
  cases q : H x with
  | none => exact absurd q h
  | some o =>
    rw [e o q]
    exact fun z => nomatch z
theorem BkO.mono {C : Addr} {H H' : Hp} {b : Addr} {st : Km522.State} {Av : Addr → Prop} (h : BkO C H b st Av) (e : Ex H H') : BkO C H' b st Av :=
  h.frame (fun x o _ q => e x o q) (fun x hx => let ⟨_, _, _, _, _, _, av⟩ := h.ins; some_mono (e x) (av x hx))
def sp_answer (K : PySem.W.Frag) (C : Addr) : Sp := fun vs H Q _ => vs.length = 3 ∧ ∃ (b : Addr) (st : Km522.State) (Av : Addr → Prop) (p g : Nat), vs = [.ref b, .int p, .int g] ∧ p ≤ 21 ∧ (∀ d, st = some d → CN.DeskOk d) ∧ BkO C H b st Av ∧
  ∀ q H', BkO C H' b (Km522.step st (cc p g)).1 Av → AvS Av H H' → ¬ Av q → H' q = some (.lst ((al (Km522.step st (cc p g)).2).map V.int)) → Q (.ref q) H'
theorem sc_answer : FnScope ["book", "call", "given"] ["book", "call", "given"] (defScope (top 80)) := ⟨rfl, rfl, rfl, by decide +kernel, rfl, by decide +kernel, by decide +kernel⟩
theorem cal_answer {P : Program} {w : World} {K : PySem.W.Frag} {mg : Str → Option Value} {base : Heap} {C : Addr} (B : BkT K mg C) (g : Glo K mg "answer" (top 80)) (T : Txt K mg) (c_answer_keeping : Cal P w K mg base 3 "answer_keeping" (sp_answer_keeping K C)) (c_answer_next : Cal P w K mg base 8 "answer_next" (sp_answer_next K C)) (c_answer_whole : Cal P w K mg base 9 "answer_whole" (sp_answer_whole K C)) (c_begin : Cal P w K mg base 2 "begin" (sp_begin K C)) : Cal P w K mg base 10 "answer" (sp_answer K C) := by
  refine cal_by g sc_answer (fun _ _ _ _ _ _ us hl => match us, hl with | [_, _, _], _ => rfl) (fun vs H Q E h => h.1) fun f cdv A outer s H vs Q E hr h => ?_
  have nd := sc_answer.nd
  refine ⟨_, (pss_cons (ps_if (pt_cmpR op_eq (pv 1) pe_int (nomark _)) (pss_one (ps_ret (C8.pe_c c_begin hr (by decide) rfl (pa_cons (pv 0) pa_nil)))) pss_nil)
      (pss_cons (ps_if (pt_not (pt_val (pe_fld (pv 0) rfl))) (pss_one (ps_ret (pe_lst (pa_cons (C8.pe_gc rfl T.NOT_BEGUN) pa_nil)))) pss_nil)
      (pss_cons (ps_if (pt_cmpR op_le (pv 1) pe_int (nomark _)) (pss_one (ps_ret (C8.pe_c c_answer_keeping hr (by decide) rfl (pa_cons (pv 0) (pa_cons (pv 1) (pa_cons (pv 2) pa_nil)))))) pss_nil)
      (pss_cons (ps_if (pt_cmpR op_le (pv 1) pe_int (nomark _)) (pss_one (ps_ret (C8.pe_c c_answer_next hr (by decide) rfl (pa_cons (pv 0) (pa_cons (pv 1) (pa_cons (pv 2) pa_nil)))))) pss_nil)
      (pss_one (ps_ret (C8.pe_c c_answer_whole hr (by decide) rfl (pa_cons (pv 0) (pa_cons (pv 1) (pa_cons (pv 2) pa_nil)))))))))), ?_⟩
  obtain ⟨_, b, st, Av, p, g, rfl, h21, o, kb, hQ⟩ := h
  refine q_case (j := 0) (ev_var rfl) (fun z H1 e1 => ?_) fun z0 H1 e1 => ?_
  · subst z
    refine s_retC (ea_cons (ev_var rfl) ea_nil) fun H2 e2 => ?_
    obtain ⟨dx, cl, rl, m, h1, h2, h3⟩ := kb.ins
    refine ⟨rfl, b, dx, cl, rl, st.isSome, m, Av, rfl, e2 _ _ (e1 _ _ h1), h2, fun x hx => some_mono (fun o q => e2 _ _ (e1 _ _ q)) (h3 x hx), fun q H3 k3 a3 nq hx => hQ q H3 k3 ((AvS.ex (e1.trans e2)).trans a3) nq hx⟩
  obtain ⟨dx, cl, rl, m, h1, h2, h3⟩ := kb.ins
  have en : cc p g ≠ .begin_ := by
    unfold cc
    split <;> first | exact absurd rfl z0 | exact fun z => nomatch z
  refine q_when (et_not (et_B (ev_fld (ev_var rfl) (e1 _ _ h1) B.cl B.nb bF_begun))) (fun hbb H2 e2 => ?_) (fun hbb H2 e2 => ?_)
  · have hs : st = none := by
      cases st with
      | none => rfl
      | some d => cases hbb
    subst hs
    have es : Km522.step none (cc p g) = (none, Km522.say (-11)) := by
      revert en
      generalize cc p g = c
      intro hc
      cases c <;> first | exact absurd rfl hc | rfl
    rw [es] at hQ
    exact s_retI (xs := [-11]) (el_lst (ea_cons ev_c ea_nil) (by show 1 ≤ 100000; decide)) fun q H3 hq e3 hx => hQ q H3 (kb.mono ((e1.trans e2).trans e3)) (AvS.ex ((e1.trans e2).trans e3)) (fun z => h3 q z (fresh_back (e1.trans e2) hq)) hx
  cases st with
  | none => cases hbb
  | some d =>
    have od := o d rfl
    have e2 := e1.trans e2
    have hP : ∀ H3, Ex H H3 → StP C H3 b d Av (cc p g) Q := fun H3 e3 d' a q pp H4 k v np hx => by
      rw [q] at hQ
      exact hQ pp H4 k ((AvS.ex e3).trans v) np hx
    have e77 : ∀ n : Nat, decide ((p : Int) ≤ (n : Int)) = decide (p ≤ n) := fun n => decide_eq_decide.mpr (by omega)
    refine q_when (b := decide (p ≤ 7)) (by rw [← e77 7]; exact et_test (ev_op (ev_var rfl) ev_c rv_I0)) (fun hb H3 e3 => ?_) (fun hb H3 e3 => ?_)
    · have := of_decide_eq_true hb
      exact s_retC (ea_cons (ev_var rfl) (ea_cons (ev_var rfl) (ea_cons (ev_var rfl) ea_nil))) fun H4 e4 => ⟨rfl, b, d, Av, p, g, rfl, by omega, this, od, Bk.mono kb ((e2.trans e3).trans e4), hP H4 ((e2.trans e3).trans e4)⟩
    have g7 := of_decide_eq_false hb
    have e3 := e2.trans e3
    refine q_when (b := decide (p ≤ 14)) (by rw [← e77 14]; exact et_test (ev_op (ev_var rfl) ev_c rv_I0)) (fun hb H4 e4 => ?_) (fun hb H4 e4 => ?_)
    · have := of_decide_eq_true hb
      exact s_retC (ea_cons (ev_var rfl) (ea_cons (ev_var rfl) (ea_cons (ev_var rfl) ea_nil))) fun H5 e5 => ⟨rfl, b, d, Av, p, g, rfl, by omega, this, od, Bk.mono kb ((e3.trans e4).trans e5), hP H5 ((e3.trans e4).trans e5)⟩
    have g14 := of_decide_eq_false hb
    exact s_retC (ea_cons (ev_var rfl) (ea_cons (ev_var rfl) (ea_cons (ev_var rfl) ea_nil))) fun H5 e5 => ⟨rfl, b, d, Av, p, g, rfl, by omega, h21, od, Bk.mono kb ((e3.trans e4).trans e5), hP H5 ((e3.trans e4).trans e5)⟩
end CW
/-! The list of calls. -/
namespace CW
open PySem PySem.Spec PyProof.Rows L2 Evl
open Km522 (n2i mind Desk Case END states onTo from_ fromTo now)
open CN (Stp thg tab trow stepsOf nst wt tot nxt)

def hasN (p : Nat) : Bool := [1, 2, 5, 6, 9, 13, 14, 18, 20].contains p
inductive Prs : List Int → List (Nat × Nat) → Prop
  | nil : Prs [] []
  | one {p : Nat} {r : List Int} {cs : List (Nat × Nat)} : p ≤ 21 → hasN p = false → Prs r cs → Prs ((p : Int) :: r) ((p, 0) :: cs)
  | two {p g : Nat} {r : List Int} {cs : List (Nat × Nat)} : p ≤ 21 → hasN p = true → Prs r cs → Prs ((p : Int) :: (g : Int) :: r) ((p, g) :: cs)
def play : Km522.State → List (Nat × Nat) → List Int
  | _, [] => []
  | st, c :: r => ((al (Km522.step st (cc c.1 c.2)).2).length : Int) :: al (Km522.step st (cc c.1 c.2)).2 ++ play (Km522.step st (cc c.1 c.2)).1 r
def withN : List V := [.int 1, .int 2, .int 5, .int 6, .int 9, .int 13, .int 14, .int 18, .int 20]
theorem in_withN : ∀ p : Nat, p ≤ 21 → inV (.int (p : Int)) withN = hasN p := by
  have h : ∀ p : Fin 22, inV (.int ((p.1 : Nat) : Int)) withN = hasN p.1 := by decide +kernel
  exact fun p hp => h ⟨p, by omega⟩
theorem st_ok {st : Km522.State} (o : ∀ d, st = some d → CN.DeskOk d) (c : Km522.Call) : (∀ d, (Km522.step st c).1 = some d → CN.DeskOk d) ∧ (al (Km522.step st c).2).length ≤ 20 := by
  cases st with
  | some d =>
    obtain ⟨d', a, h1, h2⟩ := desk_step (o d rfl) c
    refine ⟨fun d2 h => ?_, ans_len (o d rfl) c⟩
    rw [h1] at h
    exact Option.some.inj h ▸ h2
  | none =>
    cases c with
    | begin_ =>
      refine ⟨fun d2 h => ?_, by show 1 ≤ 20; decide⟩
      have e : (⟨[], [], 1⟩ : Desk) = d2 := Option.some.inj h
      rw [← e]
      exact ⟨Nat.zero_le _, (fun c h => nomatch h), (fun c h => nomatch h), (fun c h => nomatch h), List.nodup_nil, Nat.zero_le _, (fun c h => nomatch h), by decide⟩
    | _ => exact ⟨(fun d2 h => nomatch h), by show 1 ≤ 20; decide⟩
section
variable {K : PySem.W.Frag} {σ : L2.St} {H : Hp} {ta : TE} {D : Ends} {tz : TS} {C : Addr}
theorem q_mk {sp : Sp} {E : XK} {i : Nat} (k : ∀ x dx, H x = none → H dx = none → dx ≠ x → sp [.ref x] (upd (upd H dx (.own x)) x (.ins C dx [])) (fun v H2 => v = .non ∧ tz D (σ.set i (some (.ref x))) H2) E) : tSeq (tAsg (tMake C sp [] E tNil) (gName i)) tz D σ H := k
theorem q_asgC {sp : Sp} {E : XK} {i : Nat} {t : TA} {vs : List V} (h : EvA t σ H vs) (k : ∀ H1, Ex H H1 → sp vs H1 (fun v H2 => tz D (σ.set i (some v)) H2) E) : tSeq (tAsg (tCall sp [] E t) (gName i)) tz D σ H := h H (Ex.refl H) _ fun H1 e1 => by
  show sp (vs ++ []) H1 _ E
  rw [List.append_nil]
  exact k H1 e1
theorem q_ext {te : TE} {l q : Addr} {xs zs : List V} (hl : H l = some (.lst xs)) (hq : H q = some (.lst zs)) (ha : Ev ta σ H (.ref l)) (he : Ev te σ H (.ref q)) (hz : xs.length + zs.length ≤ 100000) (k : ∀ H1, Ex H H1 → tz D σ (upd H1 l (.lst (xs ++ zs)))) : tSeq (tDrop (tBM K "list" rExtend ta (tCons te tNil))) tz D σ H :=
  ha H (Ex.refl H) _ fun H1 e1 => ⟨Or.inl ⟨rfl, xs, sq_of (e1 l _ hl)⟩, he H1 e1 _ fun H2 e2 => ⟨l, q, xs, zs, rfl, rfl, (e1.trans e2) l _ hl, (e1.trans e2) q _ hq, sz_of hz, k H2 (e1.trans e2)⟩⟩
/-- an if whose two ends go on alike -/
theorem q_rest {tt : TT} {tu : TS} {M : L2.St → Hp → Prop} (k : ∀ σ' H', M σ' H' → tz D σ' H') (h : (∀ σ' H', M σ' H' → tz D σ' H') → tSeq (tIfS tt tu tNext) tz D σ H) : tSeq (tIfS tt tu tNext) tz D σ H := h k
end
theorem keepT {K : PySem.W.Frag} {H0 : Hp} {a : Addr} {xs : List V} (h : SqL K H0 a xs) : ∃ (P : Addr → Prop) (T : Hp → Prop), (∀ H, T H → SqL K H a xs) ∧ T H0 ∧ (∀ x, P x → H0 x ≠ none) ∧ ∀ H H', (∀ x o, P x → H x = some o → H' x = some o) → T H → T H' := by
  rcases h with h | h
  · refine ⟨fun x => x = a, fun H => Rd H a (.lst xs), fun H q => .inl q, h, fun x hx => ?_, fun H H' e q => ?_⟩
    · subst hx
      rcases h with h | ⟨o, h⟩
      · rw [h]
        exact fun z => nomatch z
      · rw [h]
        exact fun z => nomatch z
    · rcases q with q | ⟨o, q⟩
      · exact .inl (e a _ rfl q)
      · exact .inr ⟨o, e a _ rfl q⟩
  · exact ⟨fun _ => False, fun _ => True, fun H _ => .inr h, trivial, fun x hx => hx.elim, fun _ _ _ _ => trivial⟩
def sp_answers (K : PySem.W.Frag) (C : Addr) : Sp := fun vs H Q _ => vs.length = 1 ∧ ∃ (a : Addr) (l : List Int) (cs : List (Nat × Nat)), vs = [.ref a] ∧ SqL K H a (l.map V.int) ∧ Prs l cs ∧ cs.length ≤ 60 ∧ ∀ q H', H' q = some (.lst ((play none cs).map V.int)) → Q (.ref q) H'
theorem drop_cons {l : List Int} {k : Nat} {x : Int} {r : List Int} (h : l.drop k = x :: r) : k < l.length ∧ l[k]? = some x ∧ l.drop (k + 1) = r := by
  have hk : k < l.length := by
    have := congrArg List.length h
    rw [List.length_drop, List.length_cons] at this
    omega
  rw [List.drop_eq_getElem_cons hk] at h
  have e := List.cons.inj h
  exact ⟨hk, by rw [List.getElem?_eq_getElem hk, e.1], e.2⟩
theorem at_l {l : List Int} {k : Nat} {x : Int} (h : l[k]? = some x) : atI (l.map V.int) (k : Int) = some (.int x) := atI_nat (by rw [List.getElem?_map, h]; rfl)
theorem sc_answers : FnScope ["calls", "book", "found", "at", "call", "given", "told"] ["calls"] (defScope (top 81)) := ⟨rfl, rfl, rfl, by decide +kernel, rfl, by decide +kernel, by decide +kernel⟩
theorem fn_answers {P : Program} {w : World} {K : PySem.W.Frag} {mg : Str → Option Value} {base : Heap} {C : Addr} (B : BkT K mg C) {ff : Addr} {fd : FuncData} (F : L2.Fun K "answers" "answers" (top 81) ff fd) (T : Txt K mg) (c_Book : C8.Mak P w K mg base 1 "Book" C (sp_Book___init__ K C) []) (c_answer : Cal P w K mg base 10 "answer" (sp_answer K C)) : FnOk P w K mg base CX0 11 ff fd ["calls"] (sp_answers K C) := by
  refine F.ok sc_answers (fun vs H Q E h => h.1) fun cdv A outer s H vs Q E hr h => ?_
  have nd := sc_answers.nd
  obtain ⟨aWITH_NUMBER, hWITH_NUMBER, qWITH_NUMBER⟩ := T.WITH_NUMBER
  refine ⟨_, (pss_cons (ps_set (i := 1) nd rfl (Or.inl rfl) (CW.pe_mk0 c_Book hr (by decide) rfl))
      (pss_cons (ps_set (i := 2) nd rfl (Or.inl rfl) (pe_lst pa_nil))
      (pss_cons (ps_set (i := 3) nd rfl (Or.inl rfl) pe_int)
      (pss_cons (ps_while PassesOwn.never (pt_cmpR op_lt (pv 3) (pe_callB call_len_seq (by rfl) T.len PySem.boot_len (pa_cons (pv 0) pa_nil)) (nomark _)) (pss_cons (ps_set (i := 4) nd rfl (Or.inl rfl) (pe_ix ix_list (pv 0) (pv 3) (fun _ _ => rfl)))
      (pss_cons (ps_set (i := 5) nd rfl (Or.inl rfl) pe_int)
      (pss_cons (ps_if (pt_cmpR op_in_seq (pv 4) (C8.pe_gc rfl hWITH_NUMBER) (by with_unfolding_all rfl)) (pss_cons (ps_set (i := 3) nd rfl (Or.inl rfl) (pe_op op_add (pv 3) pe_int))
      (pss_one (ps_set (i := 5) nd rfl (Or.inl rfl) (pe_ix ix_list (pv 0) (pv 3) (fun _ _ => rfl))))) pss_nil)
      (pss_cons (ps_set (i := 6) nd rfl (Or.inl rfl) (C8.pe_c c_answer hr (by decide) rfl (pa_cons (pv 1) (pa_cons (pv 4) (pa_cons (pv 5) pa_nil)))))
      (pss_cons (ps_expr (pe_bm PySem.F.plainAttrs_list PySem.F.slot_list_append PySem.F.type_list_append mt_append (pv 2) (pa_cons (pe_callB call_len_seq (by rfl) T.len PySem.boot_len (pa_cons (pv 6) pa_nil)) pa_nil)))
      (pss_cons (ps_expr (pe_bm PySem.F.plainAttrs_list PySem.F.slot_list_extend PySem.F.type_list_extend mt_extend (pv 2) (pa_cons (pv 6) pa_nil)))
      (pss_one (ps_set (i := 3) nd rfl (Or.inl rfl) (pe_op op_add (pv 3) pe_int))))))))))
      (pss_one (ps_ret (pv 2))))))), ?_⟩
  obtain ⟨_, a, l, cs0, rfl, hl, hp0, hn, hQ⟩ := h
  obtain ⟨P, T', hT, hT0, hP, hKeep⟩ := keepT hl
  refine q_mk fun b dx hb hdx ndx => ⟨rfl, b, dx, rfl, upd_same, fun H1 cl rl fr1 hb1 => ⟨rfl, ?_⟩⟩
  have e1 : Ex H H1 := fun x o ho => fr1 x o (by
    rw [upd_ne (ne_of_none ho hb), upd_ne (ne_of_none ho hdx)]
    exact ho) (ne_of_none ho hb)
  refine q_asgL (el_lst ea_nil (by show 0 ≤ 100000; decide)) fun f H2 hf e2 hf2 => ?_
  have nfb : b ≠ f := fun z => by
    rw [← z, hb1] at hf
    cases hf
  have nP : ∀ x, P x → x ≠ f := fun x hx z => hP x hx (fresh_back e1 (z ▸ hf))
  have hKf : ∀ H' o, T' H' → T' (upd H' f o) := fun H' o => hKeep H' _ fun x u hx h => by
    rw [upd_ne (nP x hx)]
    exact h
  let Av : Addr → Prop := fun x => x = f ∨ P x
  have kb2 : BkO C H2 b none Av := by
    refine ⟨dx, cl, rl, 1, e2 _ _ hb1, ?_, ?_⟩
    · rintro (z | z)
      · exact nfb z
      · exact hP b z hb
    · rintro x (z | z)
      · rw [z, hf2]
        exact fun z => nomatch z
      · exact some_mono (fun o q => e2 _ _ (e1 _ _ q)) (hP x z)
  refine q_asg (v := .int ((0 : Nat) : Int)) ev_c fun H3 e3 => ?_
  refine q_while (fun m σ H' => ∃ (k : Nat) (cs : List (Nat × Nat)) (st : Km522.State) (out : List Int) (z4 z5 z6 : Option V), m = cs.length ∧ σ = [some (.ref a), some (.ref b), some (.ref f), some (.int (k : Int)), z4, z5, z6] ∧ Prs (l.drop k) cs ∧ T' H' ∧ H' f = some (.lst (out.map V.int)) ∧ BkO C H' b st Av ∧ (∀ d, st = some d → CN.DeskOk d) ∧ out ++ play st cs = play none cs0 ∧ out.length + 21 * cs.length ≤ 1260) cs0.length ?_ ?_
  · exact ⟨0, cs0, none, [], none, none, none, rfl, rfl, by rw [List.drop_zero]; exact hp0, hKeep _ _ (fun x o _ h => e3 _ _ (e2 _ _ (e1 _ _ h))) hT0, e3 _ _ hf2, kb2.mono e3, (fun d h => nomatch h), rfl, by show 0 + 21 * cs0.length ≤ 1260; omega⟩
  · rintro m σ H4 ⟨k, cs, st, out, z4, z5, z6, rfl, rfl, hp, t4, hf4, kb4, o4, ho4, hb4⟩
    have e5 : decide ((k : Int) < ((l.map V.int).length : Int)) = decide (k < l.length) := decide_eq_decide.mpr (by rw [List.length_map]; omega)
    refine ⟨decide (k < l.length), by rw [← e5]; exact et_test (ev_op (ev_var rfl) (ev_len (ev_var rfl) (hT _ t4)) rv_I0), fun hb H5 e5 => ⟨fun σ2 H' => ∃ m', m' < cs.length ∧ _, fun σ2 H' h => h, ?_⟩, fun hb H5 e5 => ?_⟩
    · have hk := of_decide_eq_true hb
      have t5 := hKeep _ _ (fun x o _ h => e5 x o h) t4
      have kb5 := kb4.mono e5
      have hf5 := e5 _ _ hf4
      -- told and the list: the same for both kinds of call
      have go : ∃ (p g k1 : Nat) (cs' : List (Nat × Nat)), cs = (p, g) :: cs' ∧ p ≤ 21 ∧ l[k]? = some (p : Int) ∧ Prs (l.drop (k1 + 1)) cs' ∧ ((hasN p = false ∧ k1 = k ∧ g = 0) ∨ (hasN p = true ∧ k1 = k + 1 ∧ l[k + 1]? = some (g : Int))) := by
        generalize hd : l.drop k = r at hp
        cases hp with
        | nil =>
          have := congrArg List.length hd
          rw [List.length_drop, List.length_nil] at this
          omega
        | @one p r cs' h1 h2 h3 =>
          obtain ⟨_, q1, q2⟩ := drop_cons hd
          exact ⟨p, 0, k, cs', rfl, h1, q1, by rw [q2]; exact h3, .inl ⟨h2, rfl, rfl⟩⟩
        | @two p g r cs' h1 h2 h3 =>
          obtain ⟨_, q1, q2⟩ := drop_cons hd
          obtain ⟨_, q3, q4⟩ := drop_cons q2
          exact ⟨p, g, k + 1, cs', rfl, h1, q1, by rw [q4]; exact h3, .inr ⟨h2, rfl, q3⟩⟩
      obtain ⟨p, g, k1, cs', rfl, hp21, hlk, hp', hkind⟩ := go
      refine q_asg (ev_op (ev_var rfl) (ev_var rfl) (rv_ixL (hT _ t5) (at_l hlk))) fun H6 e6 => ?_
      refine q_asg (v := .int ((0 : Nat) : Int)) ev_c fun H7 e7 => ?_
      refine q_rest (M := fun σ' H' => Ex H5 H' ∧ σ' = [some (.ref a), some (.ref b), some (.ref f), some (.int (k1 : Int)), some (.int (p : Int)), some (.int (g : Int)), z6]) (fun σ' H8 hM => ?_) fun rest => ?_
      · obtain ⟨e8, rfl⟩ := hM
        have kb8 := kb5.mono e8
        have so := st_ok o4 (cc p g)
        refine q_asgC (ea_cons (ev_var rfl) (ea_cons (ev_var rfl) (ea_cons (ev_var rfl) ea_nil))) fun H9 e9 => ⟨rfl, b, st, Av, p, g, rfl, hp21, o4, kb8.mono e9, fun q H10 kb10 a10 nq hq => ?_⟩
        have hf10 := a10 f _ (.inl rfl) (e9 _ _ (e8 _ _ hf5))
        have t10 := hKeep _ _ (fun x o hx h => a10 x o (.inr hx) (e9 _ _ (e8 _ _ h))) t5
        have nqf : q ≠ f := fun z => nq (.inl z)
        refine q_app hf10 (ev_var rfl) (ev_len (ev_var rfl) (sq_of hq)) (by rw [List.length_map]; omega) fun H11 e11 => ?_
        have hq11 : upd H11 f (.lst (out.map V.int ++ [.int (((al (Km522.step st (cc p g)).2).map V.int).length : Int)])) q = some (.lst ((al (Km522.step st (cc p g)).2).map V.int)) := upd_ex e11 hq nqf
        refine q_ext upd_same hq11 (ev_var rfl) (ev_var rfl) (by
          rw [List.length_append, List.length_map, List.length_map, List.length_singleton]
          have h1 := so.2
          have h2 : out.length + 21 * (cs'.length + 1) ≤ 1260 := hb4
          omega) fun H12 e12 => ?_
        refine s_asg (v := .int ((k1 + 1 : Nat) : Int)) (ev_op (ev_var rfl) ev_c rv_I0) fun H13 e13 => ?_
        have fr : ∀ x o, ¬ Av x → H10 x = some o → H13 x = some o := fun x o nx h => e13 _ _ (upd_ex e12 (upd_ex e11 h fun z => nx (.inl z)) fun z => nx (.inl z))
        have frP : ∀ x o, P x → H10 x = some o → H13 x = some o := fun x o nx h => e13 _ _ (upd_ex e12 (upd_ex e11 h (nP x nx)) (nP x nx))
        have hf13 := e13 _ _ (upd_same (H := H12) (a := f) (o := .lst (out.map V.int ++ [.int (((al (Km522.step st (cc p g)).2).map V.int).length : Int)] ++ (al (Km522.step st (cc p g)).2).map V.int)))
        refine ⟨cs'.length, by show cs'.length < cs'.length + 1; omega, k1 + 1, cs', (Km522.step st (cc p g)).1, out ++ (((al (Km522.step st (cc p g)).2).length : Int) :: al (Km522.step st (cc p g)).2), _, _, _, rfl, rfl, hp', hKeep _ _ frP t10, ?_, kb10.frame fr (fun x hx => ?_), so.1, ?_, ?_⟩
        · rw [hf13, List.map_append, List.map_cons, List.length_map, List.append_assoc]
          rfl
        · rcases hx with z | z
          · rw [z, hf13]
            exact fun z => nomatch z
          · obtain ⟨_, _, _, _, _, _, av⟩ := kb10.ins
            exact some_mono (frP x · z) (av x (.inr z))
        · rw [← ho4, List.append_assoc]
          rfl
        · rw [List.length_append, List.length_cons]
          have h1 := so.2
          have h2 : out.length + 21 * (cs'.length + 1) ≤ 1260 := hb4
          omega
      · refine q_when (b := hasN p) ?_ (fun hy H8 e8 => ?_) (fun hy H8 e8 => ?_)
        · rw [← in_withN p hp21]
          exact et_test (ev_op (ev_var rfl) ev_c (rv_isT (qWITH_NUMBER _) rfl (by decide +kernel)))
        · rcases hkind with ⟨h1, _⟩ | ⟨h1, h2, h3⟩
          · rw [h1] at hy
            cases hy
          · subst h2
            have e8' := (e6.trans e7).trans e8
            refine q_asg (v := .int ((k + 1 : Nat) : Int)) (ev_op (ev_var rfl) ev_c rv_I0) fun H9 e9 => ?_
            refine s_asg (ev_op (ev_var rfl) (ev_var rfl) (rv_ixL (ex_l (e8'.trans e9) (hT _ t5)) (at_l h3))) fun H10 e10 => ?_
            exact rest _ _ ⟨(e8'.trans e9).trans e10, rfl⟩
        · rcases hkind with ⟨h1, h2, h3⟩ | ⟨h1, _⟩
          · subst h2
            subst h3
            exact rest _ _ ⟨(e6.trans e7).trans e8, rfl⟩
          · rw [h1] at hy
            cases hy
    · have hk := of_decide_eq_false hb
      have hd : l.drop k = [] := List.drop_eq_nil_of_le (by omega)
      rw [hd] at hp
      cases hp
      refine s_ret (ev_var rfl) fun H6 e6 => hQ f H6 ?_
      have : out = play none cs0 := by rw [← ho4]; show out = out ++ []; rw [List.append_nil]
      rw [← this]
      exact e6 _ _ (e5 _ _ hf4)
end CW
/-! What is asked, read as calls. -/
namespace CW
theorem ite_inv {c : Prop} [Decidable c] {a b x : Option (Nat × Nat)} (h : (if c then a else b) = x) : (c ∧ a = x) ∨ (¬ c ∧ b = x) := by
  by_cases z : c
  · rw [if_pos z] at h
    exact .inl ⟨z, h⟩
  · rw [if_neg z] at h
    exact .inr ⟨z, h⟩
theorem shape_inv {p : Int} {n k : Nat} (h : PyKm522.shape p = some (n, k)) : ∃ q : Nat, q ≤ 21 ∧ p = (q : Int) ∧ k = 0 ∧ n = if hasN q = true then 1 else 0 := by
  unfold PyKm522.shape at h
  rcases ite_inv h with ⟨e, h⟩ | ⟨_, h⟩
  · cases h
    exact ⟨0, by decide, e, rfl, by decide +kernel⟩
  rcases ite_inv h with ⟨e, h⟩ | ⟨_, h⟩
  · cases h
    exact ⟨1, by decide, e, rfl, by decide +kernel⟩
  rcases ite_inv h with ⟨e, h⟩ | ⟨_, h⟩
  · cases h
    exact ⟨2, by decide, e, rfl, by decide +kernel⟩
  rcases ite_inv h with ⟨e, h⟩ | ⟨_, h⟩
  · cases h
    exact ⟨3, by decide, e, rfl, by decide +kernel⟩
  rcases ite_inv h with ⟨e, h⟩ | ⟨_, h⟩
  · cases h
    exact ⟨4, by decide, e, rfl, by decide +kernel⟩
  rcases ite_inv h with ⟨e, h⟩ | ⟨_, h⟩
  · cases h
    exact ⟨5, by decide, e, rfl, by decide +kernel⟩
  rcases ite_inv h with ⟨e, h⟩ | ⟨_, h⟩
  · cases h
    exact ⟨6, by decide, e, rfl, by decide +kernel⟩
  rcases ite_inv h with ⟨e, h⟩ | ⟨_, h⟩
  · cases h
    exact ⟨7, by decide, e, rfl, by decide +kernel⟩
  rcases ite_inv h with ⟨e, h⟩ | ⟨_, h⟩
  · cases h
    exact ⟨8, by decide, e, rfl, by decide +kernel⟩
  rcases ite_inv h with ⟨e, h⟩ | ⟨_, h⟩
  · cases h
    exact ⟨9, by decide, e, rfl, by decide +kernel⟩
  rcases ite_inv h with ⟨e, h⟩ | ⟨_, h⟩
  · cases h
    exact ⟨10, by decide, e, rfl, by decide +kernel⟩
  rcases ite_inv h with ⟨e, h⟩ | ⟨_, h⟩
  · cases h
    exact ⟨11, by decide, e, rfl, by decide +kernel⟩
  rcases ite_inv h with ⟨e, h⟩ | ⟨_, h⟩
  · cases h
    exact ⟨12, by decide, e, rfl, by decide +kernel⟩
  rcases ite_inv h with ⟨e, h⟩ | ⟨_, h⟩
  · cases h
    exact ⟨13, by decide, e, rfl, by decide +kernel⟩
  rcases ite_inv h with ⟨e, h⟩ | ⟨_, h⟩
  · cases h
    exact ⟨14, by decide, e, rfl, by decide +kernel⟩
  rcases ite_inv h with ⟨e, h⟩ | ⟨_, h⟩
  · cases h
    exact ⟨15, by decide, e, rfl, by decide +kernel⟩
  rcases ite_inv h with ⟨e, h⟩ | ⟨_, h⟩
  · cases h
    exact ⟨16, by decide, e, rfl, by decide +kernel⟩
  rcases ite_inv h with ⟨e, h⟩ | ⟨_, h⟩
  · cases h
    exact ⟨17, by decide, e, rfl, by decide +kernel⟩
  rcases ite_inv h with ⟨e, h⟩ | ⟨_, h⟩
  · cases h
    exact ⟨18, by decide, e, rfl, by decide +kernel⟩
  rcases ite_inv h with ⟨e, h⟩ | ⟨_, h⟩
  · cases h
    exact ⟨19, by decide, e, rfl, by decide +kernel⟩
  rcases ite_inv h with ⟨e, h⟩ | ⟨_, h⟩
  · cases h
    exact ⟨20, by decide, e, rfl, by decide +kernel⟩
  rcases ite_inv h with ⟨e, h⟩ | ⟨_, h⟩
  · cases h
    exact ⟨21, by decide, e, rfl, by decide +kernel⟩
  cases h
theorem upto {q : Nat} (h : q ≤ 21) : q = 0 ∨ q = 1 ∨ q = 2 ∨ q = 3 ∨ q = 4 ∨ q = 5 ∨ q = 6 ∨ q = 7 ∨ q = 8 ∨ q = 9 ∨ q = 10 ∨ q = 11 ∨ q = 12 ∨ q = 13 ∨ q = 14 ∨ q = 15 ∨ q = 16 ∨ q = 17 ∨ q = 18 ∨ q = 19 ∨ q = 20 ∨ q = 21 := by omega
theorem one_is {q : Nat} (h : q ≤ 21) (hn : hasN q = false) : Km522Neutral.callOf (PyKm522.whole [[(q : Int)]]) = some (cc q 0) := by
  rcases upto h with e | e | e | e | e | e | e | e | e | e | e | e | e | e | e | e | e | e | e | e | e | e <;> subst e <;> first | rfl | (exact absurd hn (by decide +kernel))
theorem nat_nn {g : Int} (h : Km522Neutral.naturals [g] = true) : 0 ≤ g := by
  have e : Km522Neutral.naturals [g] = ((decide (0 ≤ g) && decide (g < 4294967296)) && true) := rfl
  rw [e, Bool.and_true, Bool.and_eq_true, decide_eq_true_eq] at h
  exact h.1
theorem two_is {q : Nat} {g : Int} (h : q ≤ 21) (hn : hasN q = true) : Km522Neutral.callOf (PyKm522.whole [[(q : Int), g]]) = some (cc q g.toNat) ∧ (Km522Neutral.asked1 (PyKm522.whole [[(q : Int), g]]) = true → 0 ≤ g) := by
  rcases upto h with e | e | e | e | e | e | e | e | e | e | e | e | e | e | e | e | e | e | e | e | e | e <;> subst e <;> first | exact ⟨rfl, fun z => nat_nn z⟩ | (exact absurd hn (by decide +kernel))
theorem step_is {st : Km522.State} {c : List (List Int)} {x : Km522.Call} (h : Km522Neutral.callOf c = some x) : Km522Neutral.step st c = ((Km522.step st x).1, al (Km522.step st x).2) := by
  unfold Km522Neutral.step
  rw [h]
  rfl
theorem played_cons {st : Km522.State} {c : List (List Int)} {r : List (List (List Int))} {p g : Nat} (h : Km522Neutral.callOf c = some (cc p g)) {cs : List (Nat × Nat)} (hr : ∀ st, PyFlat.told (PyFlat.played Km522Neutral.step st r) = play st cs) :
    PyFlat.told (PyFlat.played Km522Neutral.step st (c :: r)) = play st ((p, g) :: cs) := by
  show PyFlat.told ((Km522Neutral.step st c).2 :: PyFlat.played Km522Neutral.step (Km522Neutral.step st c).1 r) = _
  rw [step_is h]
  show ((((al (Km522.step st (cc p g)).2).length : Int) :: al (Km522.step st (cc p g)).2) ++ PyFlat.told (PyFlat.played Km522Neutral.step (Km522.step st (cc p g)).1 r)) = _
  rw [hr]
  rfl
theorem calls_prs : ∀ (f : Nat) (l : List Int) (raw : List (List (List Int))), PyFlat.calls PyKm522.shape f l = some raw → (raw.map PyKm522.whole).all Km522Neutral.asked1 = true →
    ∃ cs, Prs l cs ∧ cs.length = raw.length ∧ ∀ st, PyFlat.told (PyFlat.played Km522Neutral.step st (raw.map PyKm522.whole)) = play st cs
  | f, [], raw, h, _ => by
    have e : raw = [] := by
      cases f <;> exact (Option.some.inj h).symm
    subst e
    exact ⟨[], .nil, rfl, fun st => rfl⟩
  | 0, p :: r, raw, h, _ => nomatch h
  | f + 1, p :: r, raw, h, ha => by
    have h : (match PyFlat.call PyKm522.shape (p :: r) with
      | none => none
      | some (c, t) => match PyFlat.calls PyKm522.shape f t with
        | none => none
        | some cs => some (c :: cs)) = some raw := h
    cases hc : PyFlat.call PyKm522.shape (p :: r) with
    | none =>
      rw [hc] at h
      cases h
    | some x =>
      obtain ⟨c, t⟩ := x
      rw [hc] at h
      have h : (match PyFlat.calls PyKm522.shape f t with
        | none => none
        | some cs => some (c :: cs)) = some raw := h
      cases hr : PyFlat.calls PyKm522.shape f t with
      | none =>
        rw [hr] at h
        cases h
      | some cs =>
        rw [hr] at h
        have h := (Option.some.inj h).symm
        subst h
        rw [List.map_cons, List.all_cons, Bool.and_eq_true] at ha
        obtain ⟨cs', h1, h2, h3⟩ := calls_prs f t cs hr ha.2
        have hc : (match PyKm522.shape p with
          | none => none
          | some (n, k) => if r.length < n then none else match PyFlat.rows k (r.drop n) with
            | none => none
            | some (xs, t) => some ((p :: r.take n) :: xs, t)) = some (c, t) := hc
        cases hs : PyKm522.shape p with
        | none =>
          rw [hs] at hc
          cases hc
        | some nk =>
          obtain ⟨n, k⟩ := nk
          rw [hs] at hc
          obtain ⟨q, hq, rfl, rfl, hn⟩ := shape_inv hs
          have hc : (if r.length < n then none else some ([(q : Int) :: r.take n], r.drop n)) = some (c, t) := hc
          by_cases z : r.length < n
          · rw [if_pos z] at hc
            cases hc
          · rw [if_neg z] at hc
            have e := Option.some.inj hc
            have e1 : c = [(q : Int) :: r.take n] := (congrArg Prod.fst e).symm
            have e2 : t = r.drop n := (congrArg Prod.snd e).symm
            subst e1
            subst e2
            cases hh : hasN q with
            | false =>
              rw [hh] at hn
              have hn : n = 0 := hn
              subst hn
              rw [List.take_zero] at ha ⊢
              exact ⟨(q, 0) :: cs', .one hq hh h1, by rw [List.length_cons, List.length_cons, h2], fun st => played_cons (one_is hq hh) h3⟩
            | true =>
              rw [hh] at hn
              have hn : n = 1 := hn
              subst hn
              cases r with
              | nil => exact absurd (by show 0 < 1; decide) z
              | cons g r' =>
                have tk : two_is (g := g) hq hh = two_is hq hh := rfl
                have q0 := (two_is (g := g) hq hh).2 ha.1
                have eg : g = ((g.toNat : Nat) : Int) := by omega
                refine ⟨(q, g.toNat) :: cs', ?_, by rw [List.length_cons, List.length_cons, h2], fun st => played_cons (two_is hq hh).1 h3⟩
                have pr : Prs ((q : Int) :: ((g.toNat : Nat) : Int) :: r') ((q, g.toNat) :: cs') := .two hq hh h1
                rw [← eg] at pr
                exact pr
theorem asked_prs {l : List Int} (h : PyKm522.answers_asked l = true) : ∃ cs, Prs l cs ∧ cs.length ≤ 60 ∧ PyKm522.answers l = play none cs := by
  unfold PyKm522.answers_asked at h
  cases hr : PyFlat.calls PyKm522.shape l.length l with
  | none =>
    rw [hr] at h
    cases h
  | some raw =>
    rw [hr] at h
    have h : (!raw.isEmpty && PyFlat.atMost 60 raw && PyInside.calls PyKm522.bound raw && Km522Neutral.asked (raw.map PyKm522.whole) && PyFlat.short 10000000 (PyKm522.answers l)) = true := h
    rw [Bool.and_eq_true, Bool.and_eq_true, Bool.and_eq_true, Bool.and_eq_true] at h
    have h60 := of_decide_eq_true h.1.1.1.2
    have ha := h.1.2
    unfold Km522Neutral.asked at ha
    rw [Bool.and_eq_true, Bool.and_eq_true] at ha
    obtain ⟨cs, h1, h2, h3⟩ := calls_prs _ _ _ hr ha.2.2
    refine ⟨cs, h1, by omega, ?_⟩
    unfold PyKm522.answers PyKm522.calls
    rw [hr]
    exact h3 none
end CW
/-! What the top has written, put together. -/
namespace CW
open PySem PySem.Spec PyProof.Rows L2 Evl
section
variable {K : PySem.W.Frag} {h : Heap} {mg : Str → Option Value}
theorem glo_mk (X : K.In h) (G : h.Ns mainGlobals mg) {x : Str} {st : Stmt} {f : Addr} {od an : Option Addr} {sl : Array (Option Value)} {oc kV dc pm cd ct : Value} (a : PySem.W.nsIn K mainGlobals x = some (some (.ref f)))
    (l : K.lookup f = some ⟨oc, od, .func (PySem.W.fnOf x x (defArgs st) (defBody st) (defScope st) .none kV dc pm an cd ct), sl⟩) (c : PySem.W.codeIn K cd x = true) (k : PySem.W.keepIn K (.ref f) = true) : Glo K mg x st :=
  ⟨⟨f, _, fun_mk (st := st) l c k, PySem.W.mg_of X G a⟩⟩
theorem int_mk (X : K.In h) (G : h.Ns mainGlobals mg) {x : Str} {i : Int} {t : Tok} (a : PySem.W.nsIn K mainGlobals x = some (some (.int i t))) : ∃ u, mg x = some u ∧ RelV (.int i) u := ⟨_, PySem.W.mg_of X G a, t, rfl⟩
theorem tup_mk (X : K.In h) (G : h.Ns mainGlobals mg) {x : Str} {xs : List V} {b : Addr} {od : Option Addr} {its : Array Value} {n : Nat} {sl : Array (Option Value)} (a : PySem.W.nsIn K mainGlobals x = some (some (.ref b)))
    (l : K.lookup b = some ⟨.type "tuple", od, .seq its n, sl⟩) (z : its.size ≤ sizeLine) (v : Vals xs its.toList) : ∃ a, (∃ u, mg x = some u ∧ RelV (.ref a) u) ∧ ∀ H, SqT K H a xs :=
  ⟨b, ⟨_, PySem.W.mg_of X G a, rfl⟩, fun H => .inr ⟨_, its, n, l, rfl, rfl, z, v⟩⟩
theorem met_mk {C : Addr} {m qual : Str} {st : Stmt} {f : Addr} {od an : Option Addr} {sl : Array (Option Value)} {oc kV dc pm cd ct : Value} (a : PySem.W.findIn K (.ref C) m = some (some (.ref f))) (i : PySem.W.isFn K (.ref f) = true)
    (l : K.lookup f = some ⟨oc, od, .func (PySem.W.fnOf m qual (defArgs st) (defBody st) (defScope st) .none kV dc pm an cd ct), sl⟩) (c : PySem.W.codeIn K cd qual = true) (k : PySem.W.keepIn K (.ref f) = true) : MetF K C m qual st :=
  ⟨⟨f, _, ⟨a, i, k⟩, fun_mk (st := st) l c k⟩⟩
theorem bk_mk (X : K.In h) (G : h.Ns mainGlobals mg) {C f : Addr} {od an : Option Addr} {sl : Array (Option Value)} {oc kV dc pm cd ct : Value} (aC : PySem.W.nsIn K mainGlobals "Book" = some (some (.ref C)))
    (pg : PySem.W.plainGet K C Str.empty = true) (hd : PySem.W.hasDictIn K C = true) (po : PySem.W.plainOver K C = true) (sa : PySem.W.findIn K (.ref C) "__setattr__" = some (some (.builtin "object.__setattr__"))) (mk : PySem.W.makesIn K C = true) (kc : PySem.W.keepIn K (.ref C) = true)
    (nb : PySem.W.findIn K (.ref C) "begun" = some none) (nc : PySem.W.findIn K (.ref C) "cases" = some none) (nr : PySem.W.findIn K (.ref C) "row" = some none) (nm : PySem.W.findIn K (.ref C) "memory" = some none)
    (a : PySem.W.findIn K (.ref C) "__init__" = some (some (.ref f))) (i : PySem.W.isFn K (.ref f) = true)
    (l : K.lookup f = some ⟨oc, od, .func (PySem.W.fnOf "__init__" "Book.__init__" (defArgs (inClass (top 10) 0)) (defBody (inClass (top 10) 0)) (defScope (inClass (top 10) 0)) .none kV dc pm an cd ct), sl⟩) (c : PySem.W.codeIn K cd "Book.__init__" = true) (k : PySem.W.keepIn K (.ref f) = true)
    (m1 : MetF K C "restart" "Book.restart" (inClass (top 10) 1)) (m2 : MetF K C "note" "Book.note" (inClass (top 10) 2)) (m3 : MetF K C "renew" "Book.renew" (inClass (top 10) 3)) :
    ∃ C, BkT K mg C ∧ MetF K C "restart" "Book.restart" (inClass (top 10) 1) ∧ MetF K C "note" "Book.note" (inClass (top 10) 2) ∧ MetF K C "renew" "Book.renew" (inClass (top 10) 3) :=
  ⟨C, ⟨⟨pg, hd, po, sa⟩, nb, nc, nr, nm, PySem.W.mg_of X G aC, f, _, ⟨mk, a, i, kc⟩, fun_mk (st := inClass (top 10) 0) l c k⟩, m1, m2, m3⟩
end
theorem all_mk {P : Program} {w : World} {K : PySem.W.Frag} {h : Heap} {mg : Str → Option Value} {fa f : Addr} (X : K.In h) (G : h.Ns mainGlobals mg) (hfa : mg "answers" = some (.ref fa)) {od an : Option Addr} {sl : Array (Option Value)} {oc kV dc pm cd ct : Value}
    (g_begin : Glo K mg "begin" (top 11))
    (g_set_memory : Glo K mg "set_memory" (top 12))
    (g_put : Glo K mg "put" (top 13))
    (g_back : Glo K mg "back" (top 14))
    (g_clear : Glo K mg "clear" (top 15))
    (g_case_with : Glo K mg "case_with" (top 16))
    (g_close : Glo K mg "close" (top 17))
    (g_drop : Glo K mg "drop" (top 18))
    (g_rows : Glo K mg "rows" (top 19))
    (g_remembered : Glo K mg "remembered" (top 23))
    (g_place_of : Glo K mg "place_of" (top 24))
    (g_coming : Glo K mg "coming" (top 25))
    (g_chain_of : Glo K mg "chain_of" (top 26))
    (g_place_in : Glo K mg "place_in" (top 27))
    (g_place_behind : Glo K mg "place_behind" (top 28))
    (g_divisor : Glo K mg "divisor" (top 32))
    (g_lowest : Glo K mg "lowest" (top 33))
    (g_plus : Glo K mg "plus" (top 34))
    (g_times : Glo K mg "times" (top 35))
    (g_is_above : Glo K mg "is_above" (top 36))
    (g_lessened : Glo K mg "lessened" (top 38))
    (g_without : Glo K mg "without" (top 39))
    (g_cleared : Glo K mg "cleared" (top 40))
    (g_solved : Glo K mg "solved" (top 41))
    (g_chance : Glo K mg "chance" (top 43))
    (g_likeliest : Glo K mg "likeliest" (top 44))
    (g_possible : Glo K mg "possible" (top 45))
    (g_equation : Glo K mg "equation" (top 46))
    (g_sought : Glo K mg "sought" (top 47))
    (g_awaited : Glo K mg "awaited" (top 48))
    (g_visits : Glo K mg "visits" (top 49))
    (g_comes : Glo K mg "comes" (top 50))
    (g_surest : Glo K mg "surest" (top 51))
    (g_one_more : Glo K mg "one_more" (top 52))
    (g_within : Glo K mg "within" (top 53))
    (g_beginning : Glo K mg "beginning" (top 54))
    (g_whole : Glo K mg "whole" (top 55))
    (g_chain_in : Glo K mg "chain_in" (top 59))
    (g_states_told : Glo K mg "states_told" (top 60))
    (g_known_told : Glo K mg "known_told" (top 61))
    (g_next_told : Glo K mg "next_told" (top 62))
    (g_likeliest_told : Glo K mg "likeliest_told" (top 63))
    (g_nexts_told : Glo K mg "nexts_told" (top 64))
    (g_awaited_told : Glo K mg "awaited_told" (top 65))
    (g_comes_told : Glo K mg "comes_told" (top 66))
    (g_visits_told : Glo K mg "visits_told" (top 67))
    (g_within_told : Glo K mg "within_told" (top 68))
    (g_surest_told : Glo K mg "surest_told" (top 69))
    (g_ifnext_told : Glo K mg "ifnext_told" (top 70))
    (g_rowchance_told : Glo K mg "rowchance_told" (top 71))
    (g_wholechance_told : Glo K mg "wholechance_told" (top 72))
    (g_frombegin_told : Glo K mg "frombegin_told" (top 73))
    (g_answer_keeping : Glo K mg "answer_keeping" (top 77))
    (g_answer_next : Glo K mg "answer_next" (top 78))
    (g_answer_whole : Glo K mg "answer_whole" (top 79))
    (g_answer : Glo K mg "answer" (top 80))
    (T : Txt K mg)
    (bk : ∃ C, BkT K mg C ∧ MetF K C "restart" "Book.restart" (inClass (top 10) 1) ∧ MetF K C "note" "Book.note" (inClass (top 10) 2) ∧ MetF K C "renew" "Book.renew" (inClass (top 10) 3))
    (aA : PySem.W.nsIn K mainGlobals "answers" = some (some (.ref f))) (lA : K.lookup f = some ⟨oc, od, .func (PySem.W.fnOf "answers" "answers" (defArgs (top 81)) (defBody (top 81)) (defScope (top 81)) .none kV dc pm an cd ct), sl⟩) (cA : PySem.W.codeIn K cd "answers" = true) (kA : PySem.W.keepIn K (.ref f) = true) :
    ∃ fd : FuncData, (∀ (s : Shared) (us : List Value), us.length = (["calls"] : List Str).length → BindsTo s fd ⟨us, []⟩ ((["calls"] : List Str).zip us)) ∧ ∀ base : Heap, K.In base → base.Ns mainGlobals mg → FnOk P w K mg base CX0 11 fa fd ["calls"] (sp_answers K 0) := by
  have e := hfa.symm.trans (PySem.W.mg_of X G aA)
  cases e
  obtain ⟨C, B, m_restart, m_note, m_renew⟩ := bk
  refine ⟨PySem.W.fnOf "answers" "answers" (defArgs (top 81)) (defBody (top 81)) (defScope (top 81)) .none kV dc pm an cd ct, fun s us hu => match us, hu with | [_], _ => .of_eq rfl, fun base _ _ => ?_⟩
  have c_Book := mak_Book (P := P) (w := w) (base := base) B T
  have c_back := cal_back (P := P) (w := w) (base := base) B g_back T
  have c_clear := cal_clear (P := P) (w := w) (base := base) B g_clear T
  have c_note := met_note (P := P) (w := w) (base := base) B m_note T
  have c_renew := met_renew (P := P) (w := w) (base := base) B m_renew T
  have c_case_with := cal_case_with (P := P) (w := w) (base := base) B g_case_with T
  have c_close := cal_close (P := P) (w := w) (base := base) B g_close T c_note c_renew c_case_with
  have c_drop := cal_drop (P := P) (w := w) (base := base) B g_drop T
  have c_put := cal_put (P := P) (w := w) (base := base) B g_put T
  have c_rows := cal_rows (P := P) (w := w) (base := base) B g_rows T
  have c_set_memory := cal_set_memory (P := P) (w := w) (base := base) B g_set_memory T
  have c_answer_keeping := cal_answer_keeping (P := P) (w := w) (base := base) B g_answer_keeping T c_back c_clear c_close c_drop c_put c_rows c_set_memory
  have c_place_of := cal_place_of (P := P) (w := w) (base := base) g_place_of T
  have c_remembered := cal_remembered (P := P) (w := w) (base := base) g_remembered T
  have c_place_behind := cal_place_behind (P := P) (w := w) (base := base) g_place_behind T c_place_of c_remembered
  have c_equation := cal_equation (P := P) (w := w) (base := base) g_equation T c_place_behind
  have c_divisor := cal_divisor (P := P) (w := w) (base := base) g_divisor T
  have c_lessened := cal_lessened (P := P) (w := w) (base := base) g_lessened T c_divisor
  have c_without := cal_without (P := P) (w := w) (base := base) g_without T
  have c_cleared := cal_cleared (P := P) (w := w) (base := base) g_cleared T c_lessened c_without
  have c_lowest := cal_lowest (P := P) (w := w) (base := base) g_lowest T c_divisor
  have c_solved := cal_solved (P := P) (w := w) (base := base) g_solved T c_cleared c_lowest
  have c_sought := cal_sought (P := P) (w := w) (base := base) g_sought T c_equation c_solved
  have c_awaited := cal_awaited (P := P) (w := w) (base := base) g_awaited T c_sought
  have c_coming := cal_coming (P := P) (w := w) (base := base) g_coming T
  have c_chain_of := cal_chain_of (P := P) (w := w) (base := base) g_chain_of T c_coming c_place_of c_remembered
  have c_chain_in := cal_chain_in (P := P) (w := w) (base := base) B g_chain_in T c_chain_of
  have c_place_in := cal_place_in (P := P) (w := w) (base := base) g_place_in T c_place_of c_remembered
  have c_awaited_told := cal_awaited_told (P := P) (w := w) (base := base) B g_awaited_told T c_awaited c_chain_in c_place_in
  have c_comes := cal_comes (P := P) (w := w) (base := base) g_comes T c_sought
  have c_comes_told := cal_comes_told (P := P) (w := w) (base := base) B g_comes_told T c_chain_in c_comes c_place_in
  have c_known_told := cal_known_told (P := P) (w := w) (base := base) B g_known_told T c_chain_in c_place_in
  have c_likeliest := cal_likeliest (P := P) (w := w) (base := base) g_likeliest T
  have c_likeliest_told := cal_likeliest_told (P := P) (w := w) (base := base) B g_likeliest_told T c_chain_in c_likeliest c_place_in
  have c_chance := cal_chance (P := P) (w := w) (base := base) g_chance T c_lowest
  have c_next_told := cal_next_told (P := P) (w := w) (base := base) B g_next_told T c_chain_in c_chance c_place_in
  have c_possible := cal_possible (P := P) (w := w) (base := base) g_possible T
  have c_nexts_told := cal_nexts_told (P := P) (w := w) (base := base) B g_nexts_told T c_chain_in c_place_in c_possible
  have c_plus := cal_plus (P := P) (w := w) (base := base) g_plus T c_lowest
  have c_times := cal_times (P := P) (w := w) (base := base) g_times T c_lowest
  have c_one_more := cal_one_more (P := P) (w := w) (base := base) g_one_more T c_chance c_place_behind c_plus c_times
  have c_within := cal_within (P := P) (w := w) (base := base) g_within T c_chance c_one_more
  have c_within_told := cal_within_told (P := P) (w := w) (base := base) B g_within_told T c_chain_in c_place_in c_within
  have c_answer_next := cal_answer_next (P := P) (w := w) (base := base) B g_answer_next T c_awaited_told c_comes_told c_known_told c_likeliest_told c_next_told c_nexts_told c_within_told
  have c_frombegin_told := cal_frombegin_told (P := P) (w := w) (base := base) B g_frombegin_told T c_awaited c_chain_in c_place_in
  have c_ifnext_told := cal_ifnext_told (P := P) (w := w) (base := base) B g_ifnext_told T c_awaited c_chain_in c_chance c_place_behind c_place_in
  have c_beginning := cal_beginning (P := P) (w := w) (base := base) g_beginning T c_chance c_place_in c_times
  have c_rowchance_told := cal_rowchance_told (P := P) (w := w) (base := base) B g_rowchance_told T c_beginning c_chain_in
  have c_states_told := cal_states_told (P := P) (w := w) (base := base) B g_states_told T c_chain_in
  have c_is_above := cal_is_above (P := P) (w := w) (base := base) g_is_above T
  have c_surest := cal_surest (P := P) (w := w) (base := base) g_surest T c_comes c_is_above
  have c_surest_told := cal_surest_told (P := P) (w := w) (base := base) B g_surest_told T c_chain_in c_place_in c_surest
  have c_visits := cal_visits (P := P) (w := w) (base := base) g_visits T c_sought
  have c_visits_told := cal_visits_told (P := P) (w := w) (base := base) B g_visits_told T c_chain_in c_place_in c_visits
  have c_whole := cal_whole (P := P) (w := w) (base := base) g_whole T c_beginning c_chance c_place_in c_times
  have c_wholechance_told := cal_wholechance_told (P := P) (w := w) (base := base) B g_wholechance_told T c_chain_in c_whole
  have c_answer_whole := cal_answer_whole (P := P) (w := w) (base := base) B g_answer_whole T c_frombegin_told c_ifnext_told c_rowchance_told c_states_told c_surest_told c_visits_told c_wholechance_told
  have c_restart := met_restart (P := P) (w := w) (base := base) B m_restart T
  have c_begin := cal_begin (P := P) (w := w) (base := base) B g_begin T c_restart
  have c_answer := cal_answer (P := P) (w := w) (base := base) B g_answer T c_answer_keeping c_answer_next c_answer_whole c_begin
  exact fn_answers B (fun_mk (st := top 81) lA cA kA) T c_Book c_answer
end CW
open PySem PySem.W PyProof.Rows
set_option maxRecDepth 100000 in
set_option maxHeartbeats 16000000 in
theorem PySem.Challenge.cw_comesnext_s01_answers_holds : PySem.Challenge.rw_comesnext_s01_answers.Holds := by
  w_on; k_headS; (case hw => exact ⟨[.list [.int 0]], by decide +kernel, by decide +kernel⟩)
  k_fillS
  refine L2.walk_specK (r := PySem.Challenge.rw_comesnext_s01_answers) (k := 11) (CX := L2.CX0) (ps := ["calls"]) (sp := fun K => CW.sp_answers K 0) (by decide +kernel) rfl rfl ⟨rfl, by decide, by decide⟩ (fun w h Y => PySem.W.kIn_of Y) ?F ?S (fun _ _ _ _ z => z)
  case F =>
    intro w mg fa h Y KX G hmg
    refine' CW.all_mk KX G hmg ?g_begin ?g_set_memory ?g_put ?g_back ?g_clear ?g_case_with ?g_close ?g_drop ?g_rows ?g_remembered ?g_place_of ?g_coming ?g_chain_of ?g_place_in ?g_place_behind ?g_divisor ?g_lowest ?g_plus ?g_times ?g_is_above ?g_lessened ?g_without ?g_cleared ?g_solved ?g_chance ?g_likeliest ?g_possible ?g_equation ?g_sought ?g_awaited ?g_visits ?g_comes ?g_surest ?g_one_more ?g_within ?g_beginning ?g_whole ?g_chain_in ?g_states_told ?g_known_told ?g_next_told ?g_likeliest_told ?g_nexts_told ?g_awaited_told ?g_comes_told ?g_visits_told ?g_within_told ?g_surest_told ?g_ifnext_told ?g_rowchance_told ?g_wholechance_told ?g_frombegin_told ?g_answer_keeping ?g_answer_next ?g_answer_whole ?g_answer ?T ?bk ?aA ?lA ?cA ?kA
    (case g_begin => (refine' CW.glo_mk KX G ?a ?l ?c ?k; (case a => k_is); (case l => k_is); (case c => k_is); (case k => k_is)))
    (case g_set_memory => (refine' CW.glo_mk KX G ?a ?l ?c ?k; (case a => k_is); (case l => k_is); (case c => k_is); (case k => k_is)))
    (case g_put => (refine' CW.glo_mk KX G ?a ?l ?c ?k; (case a => k_is); (case l => k_is); (case c => k_is); (case k => k_is)))
    (case g_back => (refine' CW.glo_mk KX G ?a ?l ?c ?k; (case a => k_is); (case l => k_is); (case c => k_is); (case k => k_is)))
    (case g_clear => (refine' CW.glo_mk KX G ?a ?l ?c ?k; (case a => k_is); (case l => k_is); (case c => k_is); (case k => k_is)))
    (case g_case_with => (refine' CW.glo_mk KX G ?a ?l ?c ?k; (case a => k_is); (case l => k_is); (case c => k_is); (case k => k_is)))
    (case g_close => (refine' CW.glo_mk KX G ?a ?l ?c ?k; (case a => k_is); (case l => k_is); (case c => k_is); (case k => k_is)))
    (case g_drop => (refine' CW.glo_mk KX G ?a ?l ?c ?k; (case a => k_is); (case l => k_is); (case c => k_is); (case k => k_is)))
    (case g_rows => (refine' CW.glo_mk KX G ?a ?l ?c ?k; (case a => k_is); (case l => k_is); (case c => k_is); (case k => k_is)))
    (case g_remembered => (refine' CW.glo_mk KX G ?a ?l ?c ?k; (case a => k_is); (case l => k_is); (case c => k_is); (case k => k_is)))
    (case g_place_of => (refine' CW.glo_mk KX G ?a ?l ?c ?k; (case a => k_is); (case l => k_is); (case c => k_is); (case k => k_is)))
    (case g_coming => (refine' CW.glo_mk KX G ?a ?l ?c ?k; (case a => k_is); (case l => k_is); (case c => k_is); (case k => k_is)))
    (case g_chain_of => (refine' CW.glo_mk KX G ?a ?l ?c ?k; (case a => k_is); (case l => k_is); (case c => k_is); (case k => k_is)))
    (case g_place_in => (refine' CW.glo_mk KX G ?a ?l ?c ?k; (case a => k_is); (case l => k_is); (case c => k_is); (case k => k_is)))
    (case g_place_behind => (refine' CW.glo_mk KX G ?a ?l ?c ?k; (case a => k_is); (case l => k_is); (case c => k_is); (case k => k_is)))
    (case g_divisor => (refine' CW.glo_mk KX G ?a ?l ?c ?k; (case a => k_is); (case l => k_is); (case c => k_is); (case k => k_is)))
    (case g_lowest => (refine' CW.glo_mk KX G ?a ?l ?c ?k; (case a => k_is); (case l => k_is); (case c => k_is); (case k => k_is)))
    (case g_plus => (refine' CW.glo_mk KX G ?a ?l ?c ?k; (case a => k_is); (case l => k_is); (case c => k_is); (case k => k_is)))
    (case g_times => (refine' CW.glo_mk KX G ?a ?l ?c ?k; (case a => k_is); (case l => k_is); (case c => k_is); (case k => k_is)))
    (case g_is_above => (refine' CW.glo_mk KX G ?a ?l ?c ?k; (case a => k_is); (case l => k_is); (case c => k_is); (case k => k_is)))
    (case g_lessened => (refine' CW.glo_mk KX G ?a ?l ?c ?k; (case a => k_is); (case l => k_is); (case c => k_is); (case k => k_is)))
    (case g_without => (refine' CW.glo_mk KX G ?a ?l ?c ?k; (case a => k_is); (case l => k_is); (case c => k_is); (case k => k_is)))
    (case g_cleared => (refine' CW.glo_mk KX G ?a ?l ?c ?k; (case a => k_is); (case l => k_is); (case c => k_is); (case k => k_is)))
    (case g_solved => (refine' CW.glo_mk KX G ?a ?l ?c ?k; (case a => k_is); (case l => k_is); (case c => k_is); (case k => k_is)))
    (case g_chance => (refine' CW.glo_mk KX G ?a ?l ?c ?k; (case a => k_is); (case l => k_is); (case c => k_is); (case k => k_is)))
    (case g_likeliest => (refine' CW.glo_mk KX G ?a ?l ?c ?k; (case a => k_is); (case l => k_is); (case c => k_is); (case k => k_is)))
    (case g_possible => (refine' CW.glo_mk KX G ?a ?l ?c ?k; (case a => k_is); (case l => k_is); (case c => k_is); (case k => k_is)))
    (case g_equation => (refine' CW.glo_mk KX G ?a ?l ?c ?k; (case a => k_is); (case l => k_is); (case c => k_is); (case k => k_is)))
    (case g_sought => (refine' CW.glo_mk KX G ?a ?l ?c ?k; (case a => k_is); (case l => k_is); (case c => k_is); (case k => k_is)))
    (case g_awaited => (refine' CW.glo_mk KX G ?a ?l ?c ?k; (case a => k_is); (case l => k_is); (case c => k_is); (case k => k_is)))
    (case g_visits => (refine' CW.glo_mk KX G ?a ?l ?c ?k; (case a => k_is); (case l => k_is); (case c => k_is); (case k => k_is)))
    (case g_comes => (refine' CW.glo_mk KX G ?a ?l ?c ?k; (case a => k_is); (case l => k_is); (case c => k_is); (case k => k_is)))
    (case g_surest => (refine' CW.glo_mk KX G ?a ?l ?c ?k; (case a => k_is); (case l => k_is); (case c => k_is); (case k => k_is)))
    (case g_one_more => (refine' CW.glo_mk KX G ?a ?l ?c ?k; (case a => k_is); (case l => k_is); (case c => k_is); (case k => k_is)))
    (case g_within => (refine' CW.glo_mk KX G ?a ?l ?c ?k; (case a => k_is); (case l => k_is); (case c => k_is); (case k => k_is)))
    (case g_beginning => (refine' CW.glo_mk KX G ?a ?l ?c ?k; (case a => k_is); (case l => k_is); (case c => k_is); (case k => k_is)))
    (case g_whole => (refine' CW.glo_mk KX G ?a ?l ?c ?k; (case a => k_is); (case l => k_is); (case c => k_is); (case k => k_is)))
    (case g_chain_in => (refine' CW.glo_mk KX G ?a ?l ?c ?k; (case a => k_is); (case l => k_is); (case c => k_is); (case k => k_is)))
    (case g_states_told => (refine' CW.glo_mk KX G ?a ?l ?c ?k; (case a => k_is); (case l => k_is); (case c => k_is); (case k => k_is)))
    (case g_known_told => (refine' CW.glo_mk KX G ?a ?l ?c ?k; (case a => k_is); (case l => k_is); (case c => k_is); (case k => k_is)))
    (case g_next_told => (refine' CW.glo_mk KX G ?a ?l ?c ?k; (case a => k_is); (case l => k_is); (case c => k_is); (case k => k_is)))
    (case g_likeliest_told => (refine' CW.glo_mk KX G ?a ?l ?c ?k; (case a => k_is); (case l => k_is); (case c => k_is); (case k => k_is)))
    (case g_nexts_told => (refine' CW.glo_mk KX G ?a ?l ?c ?k; (case a => k_is); (case l => k_is); (case c => k_is); (case k => k_is)))
    (case g_awaited_told => (refine' CW.glo_mk KX G ?a ?l ?c ?k; (case a => k_is); (case l => k_is); (case c => k_is); (case k => k_is)))
    (case g_comes_told => (refine' CW.glo_mk KX G ?a ?l ?c ?k; (case a => k_is); (case l => k_is); (case c => k_is); (case k => k_is)))
    (case g_visits_told => (refine' CW.glo_mk KX G ?a ?l ?c ?k; (case a => k_is); (case l => k_is); (case c => k_is); (case k => k_is)))
    (case g_within_told => (refine' CW.glo_mk KX G ?a ?l ?c ?k; (case a => k_is); (case l => k_is); (case c => k_is); (case k => k_is)))
    (case g_surest_told => (refine' CW.glo_mk KX G ?a ?l ?c ?k; (case a => k_is); (case l => k_is); (case c => k_is); (case k => k_is)))
    (case g_ifnext_told => (refine' CW.glo_mk KX G ?a ?l ?c ?k; (case a => k_is); (case l => k_is); (case c => k_is); (case k => k_is)))
    (case g_rowchance_told => (refine' CW.glo_mk KX G ?a ?l ?c ?k; (case a => k_is); (case l => k_is); (case c => k_is); (case k => k_is)))
    (case g_wholechance_told => (refine' CW.glo_mk KX G ?a ?l ?c ?k; (case a => k_is); (case l => k_is); (case c => k_is); (case k => k_is)))
    (case g_frombegin_told => (refine' CW.glo_mk KX G ?a ?l ?c ?k; (case a => k_is); (case l => k_is); (case c => k_is); (case k => k_is)))
    (case g_answer_keeping => (refine' CW.glo_mk KX G ?a ?l ?c ?k; (case a => k_is); (case l => k_is); (case c => k_is); (case k => k_is)))
    (case g_answer_next => (refine' CW.glo_mk KX G ?a ?l ?c ?k; (case a => k_is); (case l => k_is); (case c => k_is); (case k => k_is)))
    (case g_answer_whole => (refine' CW.glo_mk KX G ?a ?l ?c ?k; (case a => k_is); (case l => k_is); (case c => k_is); (case k => k_is)))
    (case g_answer => (refine' CW.glo_mk KX G ?a ?l ?c ?k; (case a => k_is); (case l => k_is); (case c => k_is); (case k => k_is)))
    (case T =>
      refine' ⟨PySem.W.mg_none_of KX G ?n_len, PySem.W.mg_none_of KX G ?n_abs, PySem.W.mg_none_of KX G ?n_sum, PySem.W.mg_none_of KX G ?n_min, PySem.W.mg_none_of KX G ?n_list, PySem.W.mg_none_of KX G ?n_range, PySem.W.mg_none_of KX G ?n_zip, CW.int_mk KX G ?i_NOT_THERE, CW.int_mk KX G ?i_NONE_LEFT, CW.int_mk KX G ?i_NOT_AS_TOLD, CW.int_mk KX G ?i_TOO_MANY, CW.int_mk KX G ?i_MOST_MEMORY, CW.int_mk KX G ?i_MOST_ACT, CW.int_mk KX G ?i_MOST_ACTS, CW.int_mk KX G ?i_MOST_CASES, CW.int_mk KX G ?i_MOST_TIMES, CW.int_mk KX G ?i_END, CW.int_mk KX G ?i_ACTS, CW.int_mk KX G ?i_NOT_KNOWN, CW.int_mk KX G ?i_MOST_WITHIN, CW.int_mk KX G ?i_NOT_BEGUN, ?t_NOTHING, ?t_WHOLE, ?t_WITH_NUMBER⟩
      (case n_len => k_is)
      (case n_abs => k_is)
      (case n_sum => k_is)
      (case n_min => k_is)
      (case n_list => k_is)
      (case n_range => k_is)
      (case n_zip => k_is)
      (case i_NOT_THERE => k_is)
      (case i_NONE_LEFT => k_is)
      (case i_NOT_AS_TOLD => k_is)
      (case i_TOO_MANY => k_is)
      (case i_MOST_MEMORY => k_is)
      (case i_MOST_ACT => k_is)
      (case i_MOST_ACTS => k_is)
      (case i_MOST_CASES => k_is)
      (case i_MOST_TIMES => k_is)
      (case i_END => k_is)
      (case i_ACTS => k_is)
      (case i_NOT_KNOWN => k_is)
      (case i_MOST_WITHIN => k_is)
      (case i_NOT_BEGUN => k_is)
      (case t_NOTHING => (refine' CW.tup_mk KX G ?a ?l ?z ?v; (case a => k_is); (case l => k_is); (case z => decide +kernel); (case v => exact (.cons ⟨_, rfl⟩ (.cons ⟨_, rfl⟩ .nil)))))
      (case t_WHOLE => (refine' CW.tup_mk KX G ?a ?l ?z ?v; (case a => k_is); (case l => k_is); (case z => decide +kernel); (case v => exact (.cons ⟨_, rfl⟩ (.cons ⟨_, rfl⟩ .nil)))))
      (case t_WITH_NUMBER => (refine' CW.tup_mk KX G ?a ?l ?z ?v; (case a => k_is); (case l => k_is); (case z => decide +kernel); (case v => exact (.cons ⟨_, rfl⟩ (.cons ⟨_, rfl⟩ (.cons ⟨_, rfl⟩ (.cons ⟨_, rfl⟩ (.cons ⟨_, rfl⟩ (.cons ⟨_, rfl⟩ (.cons ⟨_, rfl⟩ (.cons ⟨_, rfl⟩ (.cons ⟨_, rfl⟩ .nil)))))))))))))
    (case bk =>
      refine' CW.bk_mk KX G ?aC ?pg ?hd ?po ?sa ?mk ?kc ?nb ?nc ?nr ?nm ?a ?i ?l ?c ?k ?m1 ?m2 ?m3
      (case aC => k_is)
      (case pg => k_is)
      (case hd => k_is)
      (case po => k_is)
      (case sa => k_is)
      (case mk => k_is)
      (case kc => k_is)
      (case nb => k_is)
      (case nc => k_is)
      (case nr => k_is)
      (case nm => k_is)
      (case a => k_is)
      (case i => k_is)
      (case l => k_is)
      (case c => k_is)
      (case k => k_is)
      (case m1 => (refine' CW.met_mk ?a ?i ?l ?c ?k; (case a => k_is); (case i => k_is); (case l => k_is); (case c => k_is); (case k => k_is)))
      (case m2 => (refine' CW.met_mk ?a ?i ?l ?c ?k; (case a => k_is); (case i => k_is); (case l => k_is); (case c => k_is); (case k => k_is)))
      (case m3 => (refine' CW.met_mk ?a ?i ?l ?c ?k; (case a => k_is); (case i => k_is); (case l => k_is); (case c => k_is); (case k => k_is))))
    (case aA => k_is); (case lA => k_is); (case cA => k_is); (case kA => k_is)
  case S =>
    intro K H xs a hO hwi hask hx
    cases hx with
    | cons h1 h2 =>
      cases h2
      cases h1 with
      | lst hs ha =>
        have e := L2.ints_dw a.1 _ ha
        subst e
        have q : PyKm522.answers_asked a.1 = true := hask
        obtain ⟨cs, p1, p2, p3⟩ := CW.asked_prs q
        refine ⟨rfl, _, a.1, cs, rfl, hs, p1, p2, fun b H' hp => ?_⟩
        show L2.Dw K H' (.ref b) (.list ((PyKm522.answers a.1).map PySem.W.WData.int))
        rw [p3]
        exact .lst (L2.SqL.of hp) (L2.dw_ints _)
