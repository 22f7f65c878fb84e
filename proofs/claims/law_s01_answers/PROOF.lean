import PyProof.Rows.All
import Wide.All
import OpenK.AllK
import Wide.FinOn
import Open.SpecLaws
import KE.OsHead
import KE.OsGo
import HandS.ForSpec
import HandS.ForMost
import HandS.Wide
import HandS.Style
import HandS.CallLocal
import KE.KEqDeep
import HandS.Deep
import Kp390Spec
import Kp390Neutral
import PyKp390
import PySem.Challenge.RW_shapewatch_s01_answers
set_option Elab.async false
set_option linter.all false
set_option maxRecDepth 100000
set_option maxHeartbeats 8000000
namespace Sw
/-! sums -/
def sumN : Nat → (Nat → Rat) → Rat
  | 0, _ => 0
  | n + 1, f => sumN n f + f n
theorem range_sum (n : Nat) (f : Nat → Rat) : ((List.range n).map f).sum = sumN n f := by
  induction n with
  | zero => simp [sumN]
  | succ n ih => rw [List.range_succ, List.map_append, List.sum_append, ih]; simp only [List.map_cons, List.map_nil, List.sum_cons, List.sum_nil, sumN]; grind
theorem sumN_congr {n : Nat} {f g : Nat → Rat} (h : ∀ i, i < n → f i = g i) : sumN n f = sumN n g := by
  induction n with
  | zero => rfl
  | succ n ih => simp only [sumN]; rw [ih (fun i hi => h i (by omega)), h n (by omega)]
theorem sumN_sub_mul (n : Nat) (f g : Nat → Rat) (c : Rat) : sumN n (fun j => f j - c * g j) = sumN n f - c * sumN n g := by
  induction n with
  | zero => simp only [sumN]; grind
  | succ n ih => simp only [sumN]; rw [ih]; grind
theorem sumN_add (n : Nat) (f g : Nat → Rat) : sumN n (fun j => f j + g j) = sumN n f + sumN n g := by
  induction n with
  | zero => simp only [sumN]; grind
  | succ n ih => simp only [sumN]; rw [ih]; grind
theorem sumN_mul (n : Nat) (f : Nat → Rat) (c : Rat) : sumN n (fun j => c * f j) = c * sumN n f := by
  induction n with
  | zero => simp [sumN]
  | succ n ih => simp only [sumN]; rw [ih]; grind
theorem sumN_div (n : Nat) (f : Nat → Rat) (c : Rat) : sumN n (fun j => f j / c) = sumN n f / c := by
  induction n with
  | zero => simp [sumN]; grind
  | succ n ih => simp only [sumN]; rw [ih]; grind
theorem sumN_nonpos {n : Nat} {f : Nat → Rat} (h : ∀ i, i < n → f i ≤ 0) : sumN n f ≤ 0 := by
  induction n with
  | zero => simp [sumN]
  | succ n ih =>
    simp only [sumN]
    have h1 := ih (fun i hi => h i (by omega))
    have h2 := h n (by omega)
    grind
theorem sumN_nonneg {n : Nat} {f : Nat → Rat} (h : ∀ i, i < n → 0 ≤ f i) : 0 ≤ sumN n f := by
  induction n with
  | zero => simp [sumN]
  | succ n ih =>
    simp only [sumN]
    have h1 := ih (fun i hi => h i (by omega))
    have h2 := h n (by omega)
    grind
theorem sumN_le {n : Nat} {f g : Nat → Rat} (h : ∀ i, i < n → f i ≤ g i) : sumN n f ≤ sumN n g := by
  induction n with
  | zero => simp [sumN]
  | succ n ih =>
    simp only [sumN]
    have h1 := ih (fun i hi => h i (by omega))
    have h2 := h n (by omega)
    grind
/-- a sum with one unit coefficient -/
theorem sumN_delta (n : Nat) (i : Nat) (x : Nat → Rat) : sumN n (fun j => (if i = j then (1 : Rat) else 0) * x j) = if i < n then x i else 0 := by
  induction n with
  | zero => simp [sumN]
  | succ n ih =>
    simp only [sumN]; rw [ih]
    by_cases h : i = n
    · subst h; simp; grind
    · by_cases h2 : i < n
      · rw [if_pos h2, if_neg h, if_pos (show i < n + 1 by omega)]; grind
      · rw [if_neg h2, if_neg h, if_neg (show ¬ i < n + 1 by omega)]; grind
/-! matrices as functions -/
def matL (n m : Nat) (A : Nat → Nat → Rat) : List (List Rat) := (List.range n).map fun i => (List.range m).map fun j => A i j
def elim (k : Nat) (A : Nat → Nat → Rat) : Nat → Nat → Rat := fun i j => if i = k then A k j / A k k else A i j - A i k * (A k j / A k k)
theorem matL_row {n m : Nat} {A : Nat → Nat → Rat} {i : Nat} (h : i < n) : (matL n m A).getD i [] = (List.range m).map fun j => A i j := by
  simp [matL, List.getD, h]
theorem row_get {m : Nat} {f : Nat → Rat} {j : Nat} (h : j < m) : ((List.range m).map f).getD j 0 = f j := by
  simp [List.getD, h]
theorem row_getN {m : Nat} {f : Nat → Nat} {j : Nat} (h : j < m) : ((List.range m).map f).getD j 0 = f j := by
  simp [List.getD, h]
theorem eliminate_eq {n : Nat} {A : Nat → Nat → Rat} {k : Nat} (hk : k < n) (hp : A k k ≠ 0) :
    Kp389.eliminate n (matL n (n + 1) A) k = matL n (n + 1) (elim k A) := by
  have hf : (List.range n).find? (fun i => decide (k ≤ i) && ((matL n (n + 1) A).getD i []).getD k 0 != 0) = some k := by
    rw [List.find?_range_eq_some]
    refine ⟨?_, by simpa using hk, ?_⟩
    · rw [matL_row hk, row_get (by omega)]
      simp [hp]
    · intro j hj
      have : ¬ k ≤ j := by omega
      simp [this]
  unfold Kp389.eliminate
  rw [hf]
  simp only []
  rw [matL_row hk, row_get (by omega : k < n + 1)]
  apply List.ext_getElem
  · simp [matL]
  · intro i h1 h2
    have hi : i < n := by simpa [matL] using h2
    simp only [List.getElem_map, List.getElem_zipIdx, Nat.zero_add, List.set_set]
    by_cases hik : i = k
    · subst hik
      simp [matL, elim]
    · rw [if_neg hik]
      rw [List.getElem_set_ne (by omega)]
      simp only [matL, List.getElem_map, List.getElem_range]
      rw [row_get (by omega : k < n + 1)]
      apply List.ext_getElem
      · simp
      · intro j h3 h4
        have hj : j < n + 1 := by simpa using h4
        simp [elim, hik]
structure Good (n k : Nat) (x : Nat → Rat) (A : Nat → Nat → Rat) : Prop where
  unit : ∀ i j, i < n → j < k → A i j = if i = j then 1 else 0
  off : ∀ i j, k ≤ i → i < n → k ≤ j → j < n → j ≠ i → A i j ≤ 0
  rows : ∀ i, k ≤ i → i < n → 0 < sumN n (fun j => if k ≤ j then A i j else 0)
  sol : ∀ i, i < n → sumN n (fun j => A i j * x j) = A i n
theorem pos_of {n : Nat} : ∀ {m : Nat} {f : Nat → Rat}, n < m → (∀ j, j < m → j ≠ n → f j ≤ 0) → 0 < sumN m f → 0 < f n := by
  intro m f hn h hs
  by_cases hf : 0 < f n
  · exact hf
  · have : sumN m f ≤ 0 := sumN_nonpos fun i hi => by
      by_cases e : i = n
      · subst e; grind
      · exact h i hi e
    grind
theorem Good.pivot {n k : Nat} {x : Nat → Rat} {A : Nat → Nat → Rat} (g : Good n k x A) (hk : k < n) : 0 < A k k := by
  have := pos_of (n := k) (f := fun j => if k ≤ j then A k j else 0) hk (fun j hj hne => by
    by_cases h : k ≤ j
    · simp only [h, if_true]
      exact g.off k j (Nat.le_refl _) hk h hj hne
    · simp [h]) (g.rows k (Nat.le_refl _) hk)
  simpa using this
theorem mul_nonneg_of {a b : Rat} (ha : a ≤ 0) (hb : b ≤ 0) : 0 ≤ a * b := by
  have := Rat.mul_nonneg (a := -a) (b := -b) (by grind) (by grind)
  grind
theorem div_nonpos_of {a b : Rat} (ha : a ≤ 0) (hb : 0 < b) : a / b ≤ 0 := by
  have h : 0 ≤ (-a) * b⁻¹ := Rat.mul_nonneg (by grind) (by have := Rat.inv_pos.mpr hb; grind)
  rw [Rat.div_def]
  grind
theorem Good.step {n k : Nat} {x : Nat → Rat} {A : Nat → Nat → Rat} (g : Good n k x A) (hk : k < n) : Good n (k + 1) x (elim k A) := by
  have hp := g.pivot hk
  have hp0 : A k k ≠ 0 := by grind
  refine ⟨fun i j hi hj => ?_, fun i j hki hi hkj hj hne => ?_, fun i hki hi => ?_, fun i hi => ?_⟩
  · by_cases hjk : j = k
    · subst hjk
      by_cases e : i = j
      · subst e; simp [elim]; grind
      · simp [elim, e]; grind
    · have hj' : j < k := by omega
      have z := g.unit k j hk hj'
      rw [if_neg (by omega)] at z
      by_cases e : i = k
      · subst e; simp only [elim, if_true]; rw [z, if_neg (by omega)]; grind
      · simp only [elim, if_neg e]; rw [z, g.unit i j hi hj']; grind
  · have e : i ≠ k := by omega
    simp only [elim, if_neg e]
    have h1 := g.off i j (by omega) hi (by omega) hj hne
    have h2 := g.off i k (by omega) hi (by omega) hk (by omega)
    have h3 := g.off k j (by omega) hk (by omega) hj (by omega)
    have h4 := div_nonpos_of h3 hp
    have h5 := mul_nonneg_of h2 h4
    grind
  · have e : i ≠ k := by omega
    have e1 : sumN n (fun j => if k + 1 ≤ j then elim k A i j else 0) = sumN n (fun j => (if k ≤ j then A i j else 0) - (A i k / A k k) * (if k ≤ j then A k j else 0)) := by
      refine sumN_congr fun j hj => ?_
      by_cases h1 : k + 1 ≤ j
      · rw [if_pos h1, if_pos (by omega), if_pos (by omega)]; simp only [elim, if_neg e]; grind
      · by_cases h2 : k ≤ j
        · have : j = k := by omega
          subst this
          rw [if_neg h1, if_pos h2, if_pos h2]; grind
        · rw [if_neg h1, if_neg h2, if_neg h2]; grind
    rw [e1, sumN_sub_mul]
    have s1 := g.rows i (by omega) hi
    have s2 := g.rows k (Nat.le_refl _) hk
    have h2 := g.off i k (by omega) hi (by omega) hk (by omega)
    have h4 := div_nonpos_of h2 hp
    have h5 : 0 ≤ (-(A i k / A k k)) * sumN n (fun j => if k ≤ j then A k j else 0) := Rat.mul_nonneg (by grind) (by grind)
    grind
  · by_cases e : i = k
    · subst e
      have e1 : sumN n (fun j => elim i A i j * x j) = sumN n (fun j => (A i j * x j) / A i i) := sumN_congr fun j _ => by simp only [elim, if_true]; grind
      rw [e1, sumN_div, g.sol i hi]
      simp [elim]
    · have e1 : sumN n (fun j => elim k A i j * x j) = sumN n (fun j => A i j * x j - (A i k / A k k) * (A k j * x j)) := sumN_congr fun j _ => by simp only [elim, if_neg e]; grind
      rw [e1, sumN_sub_mul, g.sol i hi, g.sol k hk]
      simp only [elim, if_neg e]
      grind
theorem foldl_good {n : Nat} {x : Nat → Rat} {A : Nat → Nat → Rat} (g : Good n 0 x A) : ∀ k, k ≤ n → ∃ B, Good n k x B ∧ (List.range k).foldl (Kp389.eliminate n) (matL n (n + 1) A) = matL n (n + 1) B := by
  intro k
  induction k with
  | zero => intro _; exact ⟨A, g, rfl⟩
  | succ k ih =>
    intro hk
    obtain ⟨B, gB, e⟩ := ih (by omega)
    refine ⟨elim k B, gB.step (by omega), ?_⟩
    rw [List.range_succ, List.foldl_append, e]
    have := gB.pivot (by omega : k < n)
    exact eliminate_eq (by omega) (by grind)
/-- what solve gives, if the matrix is diagonally dominant and x solves it -/
theorem solve_eq {n : Nat} {x : Nat → Rat} {A : Nat → Nat → Rat} (g : Good n 0 x A) : Kp389.solve n (matL n (n + 1) A) = (List.range n).map x := by
  obtain ⟨B, gB, e⟩ := foldl_good g n (Nat.le_refl _)
  unfold Kp389.solve
  rw [e]
  apply List.ext_getElem
  · simp [matL]
  · intro i h1 h2
    have hi : i < n := by simpa using h2
    simp only [List.getElem_map, matL, List.getElem_range]
    rw [row_get (by omega), ← gB.sol i hi]
    have : sumN n (fun j => B i j * x j) = sumN n (fun j => (if i = j then (1 : Rat) else 0) * x j) := sumN_congr fun j hj => by rw [gB.unit i j hi hj]
    rw [this, sumN_delta, if_pos hi]
end Sw
namespace Sw
open Kp389 (Process)
/-- a process as the monitor keeps it -/
structure PWf (p : Process) : Prop where
  n2 : 2 ≤ p.stateCount
  n4 : p.stateCount ≤ 4
  m1 : 1 ≤ p.actionCount
  m3 : p.actionCount ≤ 3
  g1 : 1 ≤ p.discountNum
  gh : p.discountNum < p.discountDen
  h10 : p.discountDen ≤ 10
  l0 : p.rewards0.length = p.stateCount * p.actionCount * p.stateCount
  l1 : p.rewards1.length = p.stateCount * p.actionCount * p.stateCount
  b0 : ∀ x ∈ p.rewards0, -100000 ≤ x ∧ x ≤ 100000
  b1 : ∀ x ∈ p.rewards1, -100000 ≤ x ∧ x ≤ 100000
  tl : p.transitions.length = p.stateCount * p.actionCount
  tw : ∀ row ∈ p.transitions, row.length = p.stateCount ∧ (∀ x ∈ row, x ≤ 9) ∧ 0 < row.sum
theorem lt_mul_of {n m s a : Nat} (hs : s < n) (ha : a < m) : s * m + a < n * m := by
  have : (s + 1) * m ≤ n * m := Nat.mul_le_mul_right _ hs
  have e : (s + 1) * m = s * m + m := Nat.succ_mul s m
  omega
theorem PWf.wrow {p : Process} (W : PWf p) {s a : Nat} (hs : s < p.stateCount) (ha : a < p.actionCount) :
    (Kp389.weights p s a) ∈ p.transitions := by
  have h := lt_mul_of hs ha
  unfold Kp389.weights
  rw [List.getD_eq_getElem?_getD, List.getElem?_eq_getElem (by rw [W.tl]; exact h)]
  simp
theorem PWf.wlen {p : Process} (W : PWf p) {s a : Nat} (hs : s < p.stateCount) (ha : a < p.actionCount) : (Kp389.weights p s a).length = p.stateCount := (W.tw _ (W.wrow hs ha)).1
theorem PWf.wpos {p : Process} (W : PWf p) {s a : Nat} (hs : s < p.stateCount) (ha : a < p.actionCount) : 0 < (Kp389.weights p s a).sum := (W.tw _ (W.wrow hs ha)).2.2
theorem PWf.wle {p : Process} (W : PWf p) {s a : Nat} (hs : s < p.stateCount) (ha : a < p.actionCount) : ∀ x ∈ Kp389.weights p s a, x ≤ 9 := (W.tw _ (W.wrow hs ha)).2.1
theorem sumN_getD : ∀ (l : List Nat), sumN l.length (fun q => (l.getD q 0 : Rat)) = (l.sum : Rat) := by
  intro l
  have e : (List.range l.length).map (fun q => (l.getD q 0 : Rat)) = l.map (fun (x : Nat) => (x : Rat)) := by
    apply List.ext_getElem
    · simp
    · intro i h1 h2
      have hi : i < l.length := by simpa using h2
      simp [List.getD, hi]
  rw [← range_sum, e]
  clear e
  induction l with
  | nil => simp
  | cons a l ih => rw [List.map_cons, List.sum_cons, List.sum_cons, ih]; simp
/-! the discount -/
theorem PWf.g_pos {p : Process} (W : PWf p) : 0 < Kp389.discount p := by
  unfold Kp389.discount
  rw [Rat.div_def]
  have h1 : (0 : Rat) < (p.discountNum : Rat) := by have := W.g1; exact_mod_cast this
  have h2 : (0 : Rat) < (p.discountDen : Rat) := by have := W.g1; have := W.gh; have : 0 < p.discountDen := by omega
                                                    exact_mod_cast this
  exact Rat.mul_pos h1 (Rat.inv_pos.mpr h2)
theorem PWf.h_pos {p : Process} (W : PWf p) : (0 : Rat) < (p.discountDen : Rat) := by
  have := W.g1; have := W.gh; have : 0 < p.discountDen := by omega
  exact_mod_cast this
theorem PWf.g_eq {p : Process} (W : PWf p) : Kp389.discount p * (p.discountDen : Rat) = (p.discountNum : Rat) := by
  unfold Kp389.discount
  have := W.h_pos
  grind
theorem PWf.g_lt {p : Process} (W : PWf p) : Kp389.discount p < 1 := by
  have h := W.h_pos
  have h1 : (p.discountNum : Rat) < (p.discountDen : Rat) := by have := W.gh; exact_mod_cast this
  have e := W.g_eq
  refine Rat.not_le.mp fun z => ?_
  have := Rat.mul_nonneg (a := Kp389.discount p - 1) (b := (p.discountDen : Rat)) (by grind) (by grind)
  grind
/-! probabilities -/
theorem PWf.wposQ {p : Process} (W : PWf p) {s a : Nat} (hs : s < p.stateCount) (ha : a < p.actionCount) : (0 : Rat) < ((Kp389.weights p s a).sum : Rat) := by
  have := W.wpos hs ha
  exact_mod_cast this
theorem prob_nonneg (p : Process) (s a q : Nat) : 0 ≤ Kp389.probability p s a q := by
  unfold Kp389.probability
  rw [Rat.div_def]
  refine Rat.mul_nonneg (by exact_mod_cast Nat.zero_le _) ?_
  by_cases h : (Kp389.weights p s a).sum = 0
  · rw [h]; simp
  · have : (0 : Rat) < ((Kp389.weights p s a).sum : Rat) := by
      have : 0 < (Kp389.weights p s a).sum := by omega
      exact_mod_cast this
    have := Rat.inv_pos.mpr this
    grind
theorem PWf.prob_sum {p : Process} (W : PWf p) {s a : Nat} (hs : s < p.stateCount) (ha : a < p.actionCount) : sumN p.stateCount (fun q => Kp389.probability p s a q) = 1 := by
  unfold Kp389.probability
  rw [sumN_div]
  have := sumN_getD (Kp389.weights p s a)
  rw [W.wlen hs ha] at this
  rw [this]
  have := W.wposQ hs ha
  grind
/-- an expectation -/
def ev (p : Process) (s a : Nat) (x : Nat → Rat) : Rat := sumN p.stateCount fun q => Kp389.probability p s a q * x q
theorem avw_eq (p : Process) (t : Nat) (v : List Rat) (s a : Nat) : Kp389.actionValueWith p t v s a = Kp389.expectedReward p t s a + Kp389.discount p * ev p s a (fun q => v.getD q 0) := by
  unfold Kp389.actionValueWith ev
  rw [show Kp389.states p = List.range p.stateCount from rfl, range_sum]
theorem argmin (n : Nat) (d : Nat → Rat) (hn : 0 < n) : ∃ k, k < n ∧ ∀ i, i < n → d k ≤ d i := by
  induction n with
  | zero => omega
  | succ n ih =>
    by_cases h : n = 0
    · subst h; exact ⟨0, by omega, fun i hi => by have : i = 0 := by omega
                                                  subst this; exact Rat.le_refl⟩
    · obtain ⟨k, hk, hm⟩ := ih (by omega)
      by_cases c : d k ≤ d n
      · refine ⟨k, by omega, fun i hi => ?_⟩
        by_cases e : i = n
        · subst e; exact c
        · exact hm i (by omega)
      · refine ⟨n, by omega, fun i hi => ?_⟩
        by_cases e : i = n
        · subst e; exact Rat.le_refl
        · have := hm i (by omega)
          grind
/-- a policy -/
structure VPol (p : Process) (π : List Nat) : Prop where
  len : π.length = p.stateCount
  lt : ∀ s, s < p.stateCount → π.getD s 0 < p.actionCount
theorem ev_ge {p : Process} (W : PWf p) {s a : Nat} (hs : s < p.stateCount) (ha : a < p.actionCount) {d : Nat → Rat} {c : Rat} (h : ∀ i, i < p.stateCount → c ≤ d i) : c ≤ ev p s a d := by
  have h1 : sumN p.stateCount (fun q => c * Kp389.probability p s a q) ≤ ev p s a d := sumN_le fun i hi => by
    have := Rat.mul_le_mul_of_nonneg_left (h i hi) (prob_nonneg p s a i)
    grind
  rw [sumN_mul, W.prob_sum hs ha] at h1
  grind
/-- what is at least the discounted expectation of itself isn't negative -/
theorem nonneg_of_super {p : Process} (W : PWf p) {f : Nat → Nat} (hf : ∀ s, s < p.stateCount → f s < p.actionCount) {d : Nat → Rat} (h : ∀ s, s < p.stateCount → Kp389.discount p * ev p s (f s) d ≤ d s) : ∀ s, s < p.stateCount → 0 ≤ d s := by
  obtain ⟨k, hk, hm⟩ := argmin p.stateCount d (by have := W.n2; omega)
  have h1 := ev_ge W hk (hf k hk) hm
  have h2 := h k hk
  have h3 := Rat.mul_le_mul_of_nonneg_left h1 (by have := W.g_pos; grind : 0 ≤ Kp389.discount p)
  have h4 : 0 ≤ d k := by
    refine Rat.not_lt.mp fun z => ?_
    have := Rat.mul_pos (a := 1 - Kp389.discount p) (b := - d k) (by have := W.g_lt; grind) (by grind)
    grind
  intro s hs
  have := hm s hs
  grind
theorem ev_sub (p : Process) (s a : Nat) (x y : Nat → Rat) : ev p s a (fun q => x q - y q) = ev p s a x - ev p s a y := by
  unfold ev
  have := sumN_sub_mul p.stateCount (fun q => Kp389.probability p s a q * x q) (fun q => Kp389.probability p s a q * y q) 1
  rw [show (sumN p.stateCount fun q => Kp389.probability p s a q * (x q - y q)) = sumN p.stateCount (fun q => Kp389.probability p s a q * x q - 1 * (Kp389.probability p s a q * y q)) from sumN_congr fun i _ => by grind, this]
  grind
/-- x are the values of the policy -/
def IsVal (p : Process) (t : Nat) (π : List Nat) (x : Nat → Rat) : Prop := ∀ s, s < p.stateCount → x s = Kp389.expectedReward p t s (π.getD s 0) + Kp389.discount p * ev p s (π.getD s 0) x
/-- the matrix of a policy -/
def polA (p : Process) (t : Nat) (π : List Nat) : Nat → Nat → Rat := fun s j => if j < p.stateCount then (if s = j then (1 : Rat) else 0) - Kp389.discount p * Kp389.probability p s (π.getD s 0) j else Kp389.expectedReward p t s (π.getD s 0)
theorem polA_matL (p : Process) (t : Nat) (π : List Nat) : ((Kp389.states p).map fun s => ((Kp389.states p).map fun next => (if s = next then (1 : Rat) else 0) - Kp389.discount p * Kp389.probability p s (π.getD s 0) next) ++ [Kp389.expectedReward p t s (π.getD s 0)]) = matL p.stateCount (p.stateCount + 1) (polA p t π) := by
  unfold matL Kp389.states
  refine List.map_congr_left fun s _ => ?_
  rw [List.range_succ, List.map_append]
  congr 1
  · refine List.map_congr_left fun j hj => ?_
    have : j < p.stateCount := by simpa using hj
    simp [polA, this]
  · simp [polA]
theorem polA_good {p : Process} (W : PWf p) {t : Nat} {π : List Nat} (V : VPol p π) {x : Nat → Rat} (hx : IsVal p t π x) : Good p.stateCount 0 x (polA p t π) := by
  refine ⟨fun _ _ _ h => absurd h (Nat.not_lt_zero _), fun i j _ hi _ hj hne => ?_, fun i _ hi => ?_, fun i hi => ?_⟩
  · unfold polA
    rw [if_pos hj, if_neg (by omega)]
    have := Rat.mul_nonneg (by have := W.g_pos; grind : 0 ≤ Kp389.discount p) (prob_nonneg p i (π.getD i 0) j)
    grind
  · have e : sumN p.stateCount (fun j => if 0 ≤ j then polA p t π i j else 0) = sumN p.stateCount (fun j => (if i = j then (1 : Rat) else 0) * 1 - Kp389.discount p * Kp389.probability p i (π.getD i 0) j) := sumN_congr fun j hj => by
      unfold polA
      rw [if_pos (Nat.zero_le _), if_pos hj]; grind
    rw [e, sumN_sub_mul, W.prob_sum hi (V.lt i hi), sumN_delta, if_pos hi]
    have := W.g_lt
    grind
  · have e : sumN p.stateCount (fun j => polA p t π i j * x j) = sumN p.stateCount (fun j => (if i = j then (1 : Rat) else 0) * x j - Kp389.discount p * (Kp389.probability p i (π.getD i 0) j * x j)) := sumN_congr fun j hj => by
      unfold polA
      rw [if_pos hj]; grind
    rw [e, sumN_sub_mul, sumN_delta, if_pos hi]
    have h1 := hx i hi
    have h2 : polA p t π i p.stateCount = Kp389.expectedReward p t i (π.getD i 0) := by unfold polA; rw [if_neg (Nat.lt_irrefl _)]
    rw [h2]
    unfold ev at h1
    grind
/-- the specification's values are the one solution -/
theorem pv_eq {p : Process} (W : PWf p) {t : Nat} {π : List Nat} (V : VPol p π) {x : Nat → Rat} (hx : IsVal p t π x) : Kp389.policyValues p t π = (List.range p.stateCount).map x := by
  unfold Kp389.policyValues
  rw [polA_matL]
  exact solve_eq (polA_good W V hx)
end Sw
namespace Sw
open Kp389 (Process)
def sumZ : Nat → (Nat → Int) → Int
  | 0, _ => 0
  | n + 1, f => sumZ n f + f n
theorem sumZ_congr {n : Nat} {f g : Nat → Int} (h : ∀ i, i < n → f i = g i) : sumZ n f = sumZ n g := by
  induction n with
  | zero => rfl
  | succ n ih => simp only [sumZ]; rw [ih (fun i hi => h i (by omega)), h n (by omega)]
theorem sumZ_cast (n : Nat) (f : Nat → Int) : ((sumZ n f : Int) : Rat) = sumN n (fun i => ((f i : Int) : Rat)) := by
  induction n with
  | zero => simp [sumZ, sumN]
  | succ n ih => simp only [sumZ, sumN]; rw [← ih]; exact Rat.intCast_add _ _
def sgn (k : Nat) : Int := if k % 2 = 0 then 1 else -1
def without (row : List Int) (k : Nat) : List Int := row.take k ++ row.drop (k + 1)
def det : Nat → List (List Int) → Int
  | 0, _ => 1
  | n + 1, rows => sumZ (n + 1) fun k => sgn k * ((rows.getD 0 []).getD k 0) * det n (rows.tail.map fun r => without r k)
def matZ (n m : Nat) (A : Nat → Nat → Int) : List (List Int) := (List.range n).map fun i => (List.range m).map fun j => A i j
def detF (n : Nat) (A : Nat → Nat → Int) : Int := det n (matZ n n A)
def d2 (A : Nat → Nat → Int) : Int := A 0 0 * A 1 1 - A 0 1 * A 1 0
def d3 (A : Nat → Nat → Int) : Int := A 0 0 * (A 1 1 * A 2 2 - A 1 2 * A 2 1) - A 0 1 * (A 1 0 * A 2 2 - A 1 2 * A 2 0) + A 0 2 * (A 1 0 * A 2 1 - A 1 1 * A 2 0)
def d4 (A : Nat → Nat → Int) : Int :=
  A 0 0 * (A 1 1*(A 2 2*A 3 3-A 2 3*A 3 2) - A 1 2*(A 2 1*A 3 3-A 2 3*A 3 1) + A 1 3*(A 2 1*A 3 2-A 2 2*A 3 1))
  - A 0 1 * (A 1 0*(A 2 2*A 3 3-A 2 3*A 3 2) - A 1 2*(A 2 0*A 3 3-A 2 3*A 3 0) + A 1 3*(A 2 0*A 3 2-A 2 2*A 3 0))
  + A 0 2 * (A 1 0*(A 2 1*A 3 3-A 2 3*A 3 1) - A 1 1*(A 2 0*A 3 3-A 2 3*A 3 0) + A 1 3*(A 2 0*A 3 1-A 2 1*A 3 0))
  - A 0 3 * (A 1 0*(A 2 1*A 3 2-A 2 2*A 3 1) - A 1 1*(A 2 0*A 3 2-A 2 2*A 3 0) + A 1 2*(A 2 0*A 3 1-A 2 1*A 3 0))
theorem det2_eq (a b c d : Int) : det 2 [[a, b], [c, d]] = a * d - b * c := by
  simp [det, sumZ, sgn, without]; grind
theorem det3_eq (a b c d e f g h i : Int) : det 3 [[a, b, c], [d, e, f], [g, h, i]] = a * (e * i - f * h) - b * (d * i - f * g) + c * (d * h - e * g) := by
  have e1 : det 3 [[a, b, c], [d, e, f], [g, h, i]] = 0 + sgn 0 * a * det 2 [[e, f], [h, i]] + sgn 1 * b * det 2 [[d, f], [g, i]] + sgn 2 * c * det 2 [[d, e], [g, h]] := rfl
  rw [e1, det2_eq, det2_eq, det2_eq]
  simp [sgn]; grind
theorem detF2 (A : Nat → Nat → Int) : detF 2 A = d2 A := det2_eq _ _ _ _
theorem detF3 (A : Nat → Nat → Int) : detF 3 A = d3 A := det3_eq _ _ _ _ _ _ _ _ _
theorem detF4 (A : Nat → Nat → Int) : detF 4 A = d4 A := by
  have e1 : detF 4 A = 0 + sgn 0 * A 0 0 * det 3 [[A 1 1, A 1 2, A 1 3], [A 2 1, A 2 2, A 2 3], [A 3 1, A 3 2, A 3 3]] + sgn 1 * A 0 1 * det 3 [[A 1 0, A 1 2, A 1 3], [A 2 0, A 2 2, A 2 3], [A 3 0, A 3 2, A 3 3]]
    + sgn 2 * A 0 2 * det 3 [[A 1 0, A 1 1, A 1 3], [A 2 0, A 2 1, A 2 3], [A 3 0, A 3 1, A 3 3]] + sgn 3 * A 0 3 * det 3 [[A 1 0, A 1 1, A 1 2], [A 2 0, A 2 1, A 2 2], [A 3 0, A 3 1, A 3 2]] := rfl
  rw [e1, det3_eq, det3_eq, det3_eq, det3_eq]
  simp [sgn, d4]; grind
/-- another column -/
def colRep (A : Nat → Nat → Int) (k : Nat) (b : Nat → Int) : Nat → Nat → Int := fun i j => if j = k then b i else A i j
theorem cramer {n : Nat} (h2 : 2 ≤ n) (h4 : n ≤ 4) (A : Nat → Nat → Int) (b : Nat → Int) {i : Nat} (hi : i < n) : sumZ n (fun k => A i k * detF n (colRep A k b)) = b i * detF n A := by
  have hn : n = 2 ∨ n = 3 ∨ n = 4 := by omega
  rcases hn with rfl | rfl | rfl
  · have hi' : i = 0 ∨ i = 1 := by omega
    simp only [detF2, sumZ, d2, colRep]
    rcases hi' with rfl | rfl <;> simp <;> grind
  · have hi' : i = 0 ∨ i = 1 ∨ i = 2 := by omega
    simp only [detF3, sumZ, d3, colRep]
    rcases hi' with rfl | rfl | rfl <;> simp <;> grind
  · have hi' : i = 0 ∨ i = 1 ∨ i = 2 ∨ i = 3 := by omega
    simp only [detF4, sumZ, d4, colRep]
    rcases hi' with rfl | rfl | rfl | rfl <;> simp <;> grind
/-- not positive off the diagonal, each row's sum positive -/
structure MM (n : Nat) (A : Nat → Nat → Int) : Prop where
  off : ∀ i j, i < n → j < n → i ≠ j → A i j ≤ 0
  rows : ∀ i, i < n → 0 < sumZ n (A i)
def chio (A : Nat → Nat → Int) : Nat → Nat → Int := fun i j => A 0 0 * A (i + 1) (j + 1) - A (i + 1) 0 * A 0 (j + 1)
theorem sumZ_nonpos {n : Nat} {f : Nat → Int} (h : ∀ i, i < n → f i ≤ 0) : sumZ n f ≤ 0 := by
  induction n with
  | zero => simp [sumZ]
  | succ n ih =>
    simp only [sumZ]
    have h1 := ih (fun i hi => h i (by omega))
    have h2 := h n (by omega)
    omega
theorem sumZ_front (n : Nat) (f : Nat → Int) : sumZ (n + 1) f = f 0 + sumZ n (fun j => f (j + 1)) := by
  induction n with
  | zero => simp [sumZ]
  | succ n ih =>
    rw [sumZ, ih]
    simp only [sumZ]
    omega
theorem sumZ_lin (n : Nat) (f g : Nat → Int) (c d : Int) : sumZ n (fun j => c * f j - d * g j) = c * sumZ n f - d * sumZ n g := by
  induction n with
  | zero => simp [sumZ]
  | succ n ih => simp only [sumZ]; rw [ih]; grind
theorem MM.diag {n : Nat} {A : Nat → Nat → Int} (M : MM (n + 1) A) : 0 < A 0 0 := by
  have h := M.rows 0 (by omega)
  rw [sumZ_front] at h
  have : sumZ n (fun j => A 0 (j + 1)) ≤ 0 := sumZ_nonpos fun j hj => M.off 0 (j + 1) (by omega) (by omega) (by omega)
  omega
theorem MM.chio {n : Nat} {A : Nat → Nat → Int} (M : MM (n + 1) A) : MM n (chio A) := by
  have d := M.diag
  refine ⟨fun i j hi hj hne => ?_, fun i hi => ?_⟩
  · unfold Sw.chio
    have h1 := M.off (i + 1) (j + 1) (by omega) (by omega) (by omega)
    have h2 := M.off (i + 1) 0 (by omega) (by omega) (by omega)
    have h3 := M.off 0 (j + 1) (by omega) (by omega) (by omega)
    have h4 : A 0 0 * A (i + 1) (j + 1) ≤ 0 := Int.mul_nonpos_of_nonneg_of_nonpos (by omega) h1
    have h5 : 0 ≤ A (i + 1) 0 * A 0 (j + 1) := Int.mul_nonneg_of_nonpos_of_nonpos h2 h3
    omega
  · have e : sumZ n (Sw.chio A i) = A 0 0 * sumZ n (fun j => A (i + 1) (j + 1)) - A (i + 1) 0 * sumZ n (fun j => A 0 (j + 1)) := by
      rw [← sumZ_lin]; rfl
    have r1 := M.rows (i + 1) (by omega)
    have r2 := M.rows 0 (by omega)
    rw [sumZ_front] at r1 r2
    have h2 := M.off (i + 1) 0 (by omega) (by omega) (by omega)
    have h3 : 0 < A 0 0 * (A (i + 1) 0 + sumZ n (fun j => A (i + 1) (j + 1))) := Int.mul_pos d r1
    have h4 : 0 ≤ (- A (i + 1) 0) * (A 0 0 + sumZ n (fun j => A 0 (j + 1))) := Int.mul_nonneg (by omega) (by omega)
    rw [e]
    grind
theorem MM.d2 {A : Nat → Nat → Int} (M : MM 2 A) : 0 < d2 A := by
  have := M.chio.diag
  unfold Sw.d2
  unfold Sw.chio at this
  grind
theorem MM.d3 {A : Nat → Nat → Int} (M : MM 3 A) : 0 < d3 A := by
  have h := M.chio.d2
  have e : A 0 0 * Sw.d3 A = Sw.d2 (Sw.chio A) := by unfold Sw.d3 Sw.d2 Sw.chio; grind
  rw [← e] at h
  exact Int.pos_of_mul_pos_right (a := A 0 0) h (by have := M.diag; omega)
theorem MM.d4 {A : Nat → Nat → Int} (M : MM 4 A) : 0 < d4 A := by
  have h := M.chio.d3
  have e : (A 0 0 * A 0 0) * Sw.d4 A = Sw.d3 (Sw.chio A) := by unfold Sw.d4 Sw.d3 Sw.chio; grind
  rw [← e] at h
  exact Int.pos_of_mul_pos_right (a := A 0 0 * A 0 0) h (by have := M.diag; have := Int.mul_pos this this; omega)
theorem MM.pos {n : Nat} (h2 : 2 ≤ n) (h4 : n ≤ 4) {A : Nat → Nat → Int} (M : MM n A) : 0 < detF n A := by
  have hn : n = 2 ∨ n = 3 ∨ n = 4 := by omega
  rcases hn with rfl | rfl | rfl
  · rw [detF2]; exact M.d2
  · rw [detF3]; exact M.d3
  · rw [detF4]; exact M.d4
/-! the equations of a policy -/
def wt (p : Process) (s a q : Nat) : Int := ((Kp389.weights p s a).getD q 0 : Nat)
def wsum (p : Process) (s a : Nat) : Int := ((Kp389.weights p s a).sum : Nat)
def eqE (p : Process) (s a j : Nat) : Int := (if j = s then (p.discountDen : Int) * wsum p s a else 0) - (p.discountNum : Int) * wt p s a j
def sideI (p : Process) (t s a : Nat) : Int := (p.discountDen : Int) * sumZ p.stateCount fun q => wt p s a q * Kp389.reward p t s a q
def polE (p : Process) (π : List Nat) : Nat → Nat → Int := fun s j => eqE p s (π.getD s 0) j
def bot (p : Process) (π : List Nat) : Int := detF p.stateCount (polE p π)
def topOf (p : Process) (t : Nat) (π : List Nat) (k : Nat) : Int := detF p.stateCount (colRep (polE p π) k fun s => sideI p t s (π.getD s 0))
theorem PWf.wsum_pos {p : Process} (W : PWf p) {s a : Nat} (hs : s < p.stateCount) (ha : a < p.actionCount) : 0 < wsum p s a := by
  have := W.wpos hs ha
  unfold wsum
  omega
theorem sumZ_wt {p : Process} (W : PWf p) {s a : Nat} (hs : s < p.stateCount) (ha : a < p.actionCount) : sumZ p.stateCount (wt p s a) = wsum p s a := by
  have h : ((sumZ p.stateCount (wt p s a) : Int) : Rat) = ((wsum p s a : Int) : Rat) := by
    rw [sumZ_cast]
    have := sumN_getD (Kp389.weights p s a)
    rw [W.wlen hs ha] at this
    exact this
  exact Rat.intCast_inj.mp h
theorem sumZ_delta (n i : Nat) (c : Int) : sumZ n (fun j => if j = i then c else 0) = if i < n then c else 0 := by
  induction n with
  | zero => simp [sumZ]
  | succ n ih =>
    simp only [sumZ]; rw [ih]
    by_cases h : n = i
    · subst h; simp
    · by_cases h2 : i < n
      · rw [if_pos h2, if_neg h, if_pos (show i < n + 1 by omega)]; omega
      · rw [if_neg h2, if_neg h, if_neg (show ¬ i < n + 1 by omega)]; omega
theorem wt_nonneg (p : Process) (s a q : Nat) : 0 ≤ wt p s a q := by unfold wt; omega
theorem polE_MM {p : Process} (W : PWf p) {π : List Nat} (V : VPol p π) : MM p.stateCount (polE p π) := by
  refine ⟨fun i j hi hj hne => ?_, fun i hi => ?_⟩
  · unfold polE eqE
    rw [if_neg (by omega)]
    have := Int.mul_nonneg (a := (p.discountNum : Int)) (by omega) (wt_nonneg p i (π.getD i 0) j)
    omega
  · have e : sumZ p.stateCount (polE p π i) = 1 * sumZ p.stateCount (fun j => if j = i then (p.discountDen : Int) * wsum p i (π.getD i 0) else 0) - (p.discountNum : Int) * sumZ p.stateCount (wt p i (π.getD i 0)) := by
      rw [← sumZ_lin]
      exact sumZ_congr fun j _ => by unfold polE eqE; omega
    rw [e, sumZ_wt W hi (V.lt i hi), sumZ_delta, if_pos hi]
    have h := W.wsum_pos hi (V.lt i hi)
    have h1 := W.gh
    have : 0 < ((p.discountDen : Int) - (p.discountNum : Int)) * wsum p i (π.getD i 0) := Int.mul_pos (by omega) h
    grind
theorem bot_pos {p : Process} (W : PWf p) {π : List Nat} (V : VPol p π) : 0 < bot p π := (polE_MM W V).pos W.n2 W.n4
/-- the value of a state under a policy -/
def valQ (p : Process) (t : Nat) (π : List Nat) (s : Nat) : Rat := ((topOf p t π s : Int) : Rat) / ((bot p π : Int) : Rat)
theorem probE {p : Process} (W : PWf p) {s a : Nat} (hs : s < p.stateCount) (ha : a < p.actionCount) (q : Nat) : Kp389.probability p s a q * ((wsum p s a : Int) : Rat) = ((wt p s a q : Int) : Rat) := by
  have := W.wposQ hs ha
  have e1 : ((wsum p s a : Int) : Rat) = ((Kp389.weights p s a).sum : Rat) := rfl
  have e2 : ((wt p s a q : Int) : Rat) = ((Kp389.weights p s a).getD q 0 : Rat) := rfl
  rw [e1, e2]
  unfold Kp389.probability
  grind
theorem exp_eq {p : Process} (W : PWf p) {t s a : Nat} (hs : s < p.stateCount) (ha : a < p.actionCount) : Kp389.expectedReward p t s a * ((p.discountDen : Rat) * ((wsum p s a : Int) : Rat)) = ((sideI p t s a : Int) : Rat) := by
  unfold Kp389.expectedReward sideI
  rw [show Kp389.states p = List.range p.stateCount from rfl, range_sum, Rat.intCast_mul, sumZ_cast]
  have e : sumN p.stateCount (fun i => ((wt p s a i * Kp389.reward p t s a i : Int) : Rat)) = ((wsum p s a : Int) : Rat) * sumN p.stateCount (fun q => Kp389.probability p s a q * ((Kp389.reward p t s a q : Int) : Rat)) := by
    rw [← sumN_mul]
    refine sumN_congr fun i _ => ?_
    rw [Rat.intCast_mul, ← probE W hs ha]
    grind
  rw [e]
  have e2 : (((p.discountDen : Nat) : Int) : Rat) = (p.discountDen : Rat) := rfl
  rw [e2]
  grind
theorem cancelQ {z a b : Rat} (hz : 0 < z) (h : z * a = b * z) : a = b := by
  have : z ≠ 0 := by grind
  grind
theorem valQ_isVal {p : Process} (W : PWf p) (t : Nat) {π : List Nat} (V : VPol p π) : IsVal p t π (valQ p t π) := by
  intro s hs
  have hb : (0 : Rat) < ((bot p π : Int) : Rat) := by have := bot_pos W V; exact_mod_cast this
  have hw : (0 : Rat) < ((wsum p s (π.getD s 0) : Int) : Rat) := by have := W.wsum_pos hs (V.lt s hs); exact_mod_cast this
  have hh := W.h_pos
  have c := cramer W.n2 W.n4 (polE p π) (fun s => sideI p t s (π.getD s 0)) hs
  have c1 : sumN p.stateCount (fun k => ((polE p π s k : Int) : Rat) * ((topOf p t π k : Int) : Rat)) = ((sideI p t s (π.getD s 0) : Int) : Rat) * ((bot p π : Int) : Rat) := by
    have := congrArg (fun z : Int => (z : Rat)) c
    simp only [sumZ_cast, Rat.intCast_mul] at this
    exact this
  have c2 : sumN p.stateCount (fun k => ((polE p π s k : Int) : Rat) * valQ p t π k) = ((sideI p t s (π.getD s 0) : Int) : Rat) := by
    have e : sumN p.stateCount (fun k => ((polE p π s k : Int) : Rat) * valQ p t π k) = sumN p.stateCount (fun k => (((polE p π s k : Int) : Rat) * ((topOf p t π k : Int) : Rat)) / ((bot p π : Int) : Rat)) := sumN_congr fun i _ => by unfold valQ; grind
    rw [e, sumN_div, c1]
    grind
  have c3 : sumN p.stateCount (fun k => ((polE p π s k : Int) : Rat) * valQ p t π k) = ((p.discountDen : Rat) * ((wsum p s (π.getD s 0) : Int) : Rat)) * (valQ p t π s - Kp389.discount p * ev p s (π.getD s 0) (valQ p t π)) := by
    have e : sumN p.stateCount (fun k => ((polE p π s k : Int) : Rat) * valQ p t π k) = sumN p.stateCount (fun k => ((p.discountDen : Rat) * ((wsum p s (π.getD s 0) : Int) : Rat)) * ((if s = k then (1 : Rat) else 0) * valQ p t π k - Kp389.discount p * (Kp389.probability p s (π.getD s 0) k * valQ p t π k))) := sumN_congr fun k _ => by
      have e1 := probE W hs (V.lt s hs) k
      have e2 := W.g_eq
      have e3 : ((polE p π s k : Int) : Rat) = (if s = k then (p.discountDen : Rat) * ((wsum p s (π.getD s 0) : Int) : Rat) else 0) - (p.discountNum : Rat) * ((wt p s (π.getD s 0) k : Int) : Rat) := by
        unfold polE eqE
        rw [Rat.intCast_sub, Rat.intCast_mul]
        by_cases h : s = k
        · rw [if_pos h, if_pos h.symm, Rat.intCast_mul]; rfl
        · rw [if_neg h, if_neg (Ne.symm h)]; rfl
      rw [e3, ← e1, ← e2]
      by_cases h : s = k
      · rw [if_pos h, if_pos h]; grind
      · rw [if_neg h, if_neg h]; grind
    rw [e, sumN_mul, sumN_sub_mul, sumN_delta, if_pos hs]
    rfl
  have c4 := exp_eq W (t := t) hs (V.lt s hs)
  rw [c3, ← c4] at c2
  have hz : (0 : Rat) < (p.discountDen : Rat) * ((wsum p s (π.getD s 0) : Int) : Rat) := Rat.mul_pos hh hw
  generalize hzz : (p.discountDen : Rat) * ((wsum p s (π.getD s 0) : Int) : Rat) = z at c2 hz
  have : valQ p t π s - Kp389.discount p * ev p s (π.getD s 0) (valQ p t π) = Kp389.expectedReward p t s (π.getD s 0) := cancelQ hz c2
  grind
/-- the specification's values are the quotients of the determinants -/
theorem pv_valQ {p : Process} (W : PWf p) (t : Nat) {π : List Nat} (V : VPol p π) : Kp389.policyValues p t π = (List.range p.stateCount).map (valQ p t π) := pv_eq W V (valQ_isVal W t V)
end Sw
namespace Sw
open Kp389 (Process)
/-- the value of an action, over values as a function -/
def qv (p : Process) (t : Nat) (x : Nat → Rat) (s a : Nat) : Rat := Kp389.expectedReward p t s a + Kp389.discount p * ev p s a x
theorem ev_congr {p : Process} {s a : Nat} {x y : Nat → Rat} (h : ∀ i, i < p.stateCount → x i = y i) : ev p s a x = ev p s a y := sumN_congr fun i hi => by rw [h i hi]
theorem pv_getD {p : Process} (W : PWf p) (t : Nat) {π : List Nat} (V : VPol p π) {s : Nat} (hs : s < p.stateCount) : (Kp389.policyValues p t π).getD s 0 = valQ p t π s := by
  rw [pv_valQ W t V, row_get hs]
theorem avw_qv {p : Process} (W : PWf p) (t : Nat) {π : List Nat} (V : VPol p π) (s a : Nat) : Kp389.actionValueWith p t (Kp389.policyValues p t π) s a = qv p t (valQ p t π) s a := by
  rw [avw_eq]
  unfold qv
  rw [ev_congr fun i hi => pv_getD W t V hi]
theorem valQ_fix {p : Process} (W : PWf p) (t : Nat) {π : List Nat} (V : VPol p π) {s : Nat} (hs : s < p.stateCount) : qv p t (valQ p t π) s (π.getD s 0) = valQ p t π s := (valQ_isVal W t V s hs).symm
/-- the best of a list, beginning with one -/
def bestOf (f : Nat → Rat) (l : List Nat) (old : Nat) : Nat := l.foldl (fun (b a : Nat) => if f b < f a then a else b) old
theorem bestOf_spec (f : Nat → Rat) : ∀ (l : List Nat) (old : Nat), f old ≤ f (bestOf f l old) ∧ (∀ a ∈ l, f a ≤ f (bestOf f l old)) ∧ (bestOf f l old = old ∨ (bestOf f l old ∈ l ∧ f old < f (bestOf f l old)))
  | [], old => ⟨Rat.le_refl, fun _ h => (nomatch h), .inl rfl⟩
  | a :: l, old => by
    have e : bestOf f (a :: l) old = bestOf f l (if f old < f a then a else old) := rfl
    obtain ⟨h1, h2, h3⟩ := bestOf_spec f l (if f old < f a then a else old)
    rw [← e] at h1 h2 h3
    by_cases c : f old < f a
    · rw [if_pos c] at h1 h3
      refine ⟨by grind, fun b hb => ?_, .inr ?_⟩
      · rcases List.mem_cons.mp hb with rfl | hb
        · exact h1
        · exact h2 b hb
      · rcases h3 with h3 | ⟨h3, h4⟩
        · rw [h3]; exact ⟨List.mem_cons_self, c⟩
        · exact ⟨List.mem_cons_of_mem _ h3, by grind⟩
    · rw [if_neg c] at h1 h3
      refine ⟨h1, fun b hb => ?_, ?_⟩
      · rcases List.mem_cons.mp hb with rfl | hb
        · grind
        · exact h2 b hb
      · rcases h3 with h3 | ⟨h3, h4⟩
        · exact .inl h3
        · exact .inr ⟨List.mem_cons_of_mem _ h3, h4⟩
theorem improvedAction_eq {p : Process} (W : PWf p) (t : Nat) {π : List Nat} (V : VPol p π) (s old : Nat) : Kp389.improvedAction p t (Kp389.policyValues p t π) s old = bestOf (qv p t (valQ p t π) s) (List.range p.actionCount) old := by
  unfold Kp389.improvedAction bestOf Kp389.actions
  simp only [avw_qv W t V]
/-- one turn of the policy iteration -/
def nextP (p : Process) (t : Nat) (π : List Nat) : List Nat := (Kp389.states p).map fun s => Kp389.improvedAction p t (Kp389.policyValues p t π) s (π.getD s 0)
theorem nextP_get {p : Process} (W : PWf p) (t : Nat) {π : List Nat} (V : VPol p π) {s : Nat} (hs : s < p.stateCount) : (nextP p t π).getD s 0 = bestOf (qv p t (valQ p t π) s) (List.range p.actionCount) (π.getD s 0) := by
  unfold nextP Kp389.states
  rw [row_getN hs, improvedAction_eq W t V]
theorem nextP_pol {p : Process} (W : PWf p) (t : Nat) {π : List Nat} (V : VPol p π) : VPol p (nextP p t π) := by
  refine ⟨by simp [nextP, Kp389.states], fun s hs => ?_⟩
  rw [nextP_get W t V hs]
  obtain ⟨_, _, h3⟩ := bestOf_spec (qv p t (valQ p t π) s) (List.range p.actionCount) (π.getD s 0)
  rcases h3 with h3 | ⟨h3, _⟩
  · rw [h3]; exact V.lt s hs
  · exact List.mem_range.mp h3
theorem qv_sub (p : Process) (t s a : Nat) (x y : Nat → Rat) : qv p t x s a - qv p t y s a = Kp389.discount p * ev p s a (fun q => x q - y q) := by
  rw [ev_sub]; unfold qv; grind
/-- no value falls -/
theorem nextP_ge {p : Process} (W : PWf p) (t : Nat) {π : List Nat} (V : VPol p π) : ∀ s, s < p.stateCount → valQ p t π s ≤ valQ p t (nextP p t π) s := by
  have V' := nextP_pol W t V
  have h := nonneg_of_super W (f := fun s => (nextP p t π).getD s 0) (fun s hs => V'.lt s hs) (d := fun q => valQ p t (nextP p t π) q - valQ p t π q) fun s hs => by
    have h1 := valQ_fix W t V' hs
    have h2 := valQ_fix W t V hs
    obtain ⟨h3, _, _⟩ := bestOf_spec (qv p t (valQ p t π) s) (List.range p.actionCount) (π.getD s 0)
    rw [← nextP_get W t V hs] at h3
    rw [← qv_sub p t]
    grind
  intro s hs
  have := h s hs
  grind
/-- where the action changes, the value rises -/
theorem nextP_gt {p : Process} (W : PWf p) (t : Nat) {π : List Nat} (V : VPol p π) {s : Nat} (hs : s < p.stateCount) (hne : (nextP p t π).getD s 0 ≠ π.getD s 0) : valQ p t π s < valQ p t (nextP p t π) s := by
  have V' := nextP_pol W t V
  have h1 := valQ_fix W t V' hs
  have h2 := valQ_fix W t V hs
  obtain ⟨_, _, h3⟩ := bestOf_spec (qv p t (valQ p t π) s) (List.range p.actionCount) (π.getD s 0)
  rw [← nextP_get W t V hs] at h3
  have h4 : qv p t (valQ p t π) s (π.getD s 0) < qv p t (valQ p t π) s ((nextP p t π).getD s 0) := by
    rcases h3 with h3 | ⟨_, h3⟩
    · exact absurd h3 hne
    · exact h3
  have h5 := qv_sub p t s ((nextP p t π).getD s 0) (valQ p t (nextP p t π)) (valQ p t π)
  have h6 : 0 ≤ ev p s ((nextP p t π).getD s 0) (fun q => valQ p t (nextP p t π) q - valQ p t π q) := ev_ge W hs (V'.lt s hs) fun i hi => by
    have := nextP_ge W t V i hi
    grind
  have h7 := Rat.mul_nonneg (by have := W.g_pos; grind : 0 ≤ Kp389.discount p) h6
  grind
def tot (p : Process) (t : Nat) (π : List Nat) : Rat := sumN p.stateCount (valQ p t π)
theorem sumN_lt {n : Nat} {f g : Nat → Rat} (h : ∀ i, i < n → f i ≤ g i) {k : Nat} (hk : k < n) (hlt : f k < g k) : sumN n f < sumN n g := by
  induction n with
  | zero => omega
  | succ n ih =>
    simp only [sumN]
    by_cases e : k = n
    · subst e
      have := sumN_le (n := k) (f := f) (g := g) (fun i hi => h i (by omega))
      grind
    · have h1 := ih (fun i hi => h i (by omega)) (by omega)
      have h2 := h n (by omega)
      grind
theorem pol_ext {p : Process} {π ρ : List Nat} (V : VPol p π) (V' : VPol p ρ) (h : ∀ s, s < p.stateCount → π.getD s 0 = ρ.getD s 0) : π = ρ := by
  apply List.ext_getElem
  · rw [V.len, V'.len]
  · intro i h1 h2
    have := h i (by rw [← V.len]; exact h1)
    rw [List.getD_eq_getElem?_getD, List.getD_eq_getElem?_getD, List.getElem?_eq_getElem h1, List.getElem?_eq_getElem h2] at this
    simpa using this
theorem tot_lt {p : Process} (W : PWf p) (t : Nat) {π : List Nat} (V : VPol p π) (hne : nextP p t π ≠ π) : tot p t π < tot p t (nextP p t π) := by
  have V' := nextP_pol W t V
  have : ∃ s, s < p.stateCount ∧ (nextP p t π).getD s 0 ≠ π.getD s 0 := by
    refine Classical.byContradiction fun z => hne (pol_ext V' V fun s hs => ?_)
    exact Classical.byContradiction fun y => z ⟨s, hs, y⟩
  obtain ⟨s, hs, hd⟩ := this
  exact sumN_lt (nextP_ge W t V) hs (nextP_gt W t V hs hd)
/-! the number of policies -/
def code (m : Nat) : List Nat → Nat
  | [] => 0
  | a :: l => a + m * code m l
theorem code_lt {m : Nat} : ∀ (l : List Nat), (∀ a ∈ l, a < m) → code m l < m ^ l.length
  | [], _ => by simp [code]
  | a :: l, h => by
    have h1 := code_lt l fun b hb => h b (List.mem_cons_of_mem _ hb)
    have h2 := h a List.mem_cons_self
    simp only [code, List.length_cons, Nat.pow_succ]
    have h3 : m * (code m l + 1) ≤ m * m ^ l.length := Nat.mul_le_mul_left _ h1
    rw [Nat.mul_comm (m ^ l.length) m]
    have : m * (code m l + 1) = m * code m l + m := by rw [Nat.mul_add, Nat.mul_one]
    omega
theorem code_inj {m : Nat} : ∀ (l k : List Nat), l.length = k.length → (∀ a ∈ l, a < m) → (∀ a ∈ k, a < m) → code m l = code m k → l = k
  | [], [], _, _, _, _ => rfl
  | [], _ :: _, h, _, _, _ => by simp at h
  | _ :: _, [], h, _, _, _ => by simp at h
  | a :: l, b :: k, hl, h1, h2, e => by
    simp only [code] at e
    have ha := h1 a List.mem_cons_self
    have hb := h2 b List.mem_cons_self
    have e1 : a = b := by
      have q := congrArg (· % m) e
      simp only [Nat.add_mul_mod_self_left, Nat.mod_eq_of_lt ha, Nat.mod_eq_of_lt hb] at q
      exact q
    subst e1
    have e2 : code m l = code m k := Nat.eq_of_mul_eq_mul_left (by omega : 0 < m) (by omega)
    rw [code_inj l k (by simpa using hl) (fun x hx => h1 x (List.mem_cons_of_mem _ hx)) (fun x hx => h2 x (List.mem_cons_of_mem _ hx)) e2]
theorem VPol.mem {p : Process} {π : List Nat} (V : VPol p π) : ∀ a ∈ π, a < p.actionCount := fun a ha => by
  obtain ⟨i, hi, rfl⟩ := List.mem_iff_getElem.mp ha
  have := V.lt i (by rw [← V.len]; exact hi)
  rw [List.getD_eq_getElem?_getD, List.getElem?_eq_getElem hi] at this
  simpa using this
theorem VPol.code_lt {p : Process} (W : PWf p) {π : List Nat} (V : VPol p π) : code p.actionCount π < 81 := by
  have h := Sw.code_lt π V.mem
  rw [V.len] at h
  have h1 : p.actionCount ^ p.stateCount ≤ 3 ^ p.stateCount := Nat.pow_le_pow_left W.m3 _
  have h2 : 3 ^ p.stateCount ≤ 3 ^ 4 := Nat.pow_le_pow_right (by omega) W.n4
  omega
/-- numbers below a bound that are all different aren't more than the bound -/
theorem pigeon : ∀ (b : Nat) (l : List Nat), l.Nodup → (∀ x ∈ l, x < b) → l.length ≤ b
  | 0, [], _, _ => Nat.le_refl _
  | 0, a :: _, _, h => by have := h a List.mem_cons_self; omega
  | b + 1, l, nd, h => by
    have h1 := pigeon b (l.erase b) (nd.erase b) fun x hx => by
      have hm := List.mem_of_mem_erase hx
      have := h x hm
      have : x ≠ b := fun e => by
        subst e
        exact (List.Nodup.not_mem_erase nd) hx
      omega
    have h2 := List.length_erase_le (a := b) (l := l)
    have h3 : l.length ≤ (l.erase b).length + 1 := by
      by_cases hb : b ∈ l
      · rw [List.length_erase_of_mem hb]; omega
      · rw [List.erase_of_not_mem hb]; omega
    omega
def iterP (p : Process) (t : Nat) : Nat → List Nat → List Nat
  | 0, π => π
  | k + 1, π => iterP p t k (nextP p t π)
theorem iterP_succ (p : Process) (t : Nat) : ∀ (k : Nat) (π : List Nat), iterP p t (k + 1) π = nextP p t (iterP p t k π)
  | 0, _ => rfl
  | k + 1, π => iterP_succ p t k (nextP p t π)
theorem iterP_pol {p : Process} (W : PWf p) (t : Nat) {π : List Nat} (V : VPol p π) : ∀ k, VPol p (iterP p t k π)
  | 0 => V
  | k + 1 => by rw [iterP_succ]; exact nextP_pol W t (iterP_pol W t V k)
/-- the iteration comes to an end -/
theorem ends {p : Process} (W : PWf p) (t : Nat) {π : List Nat} (V : VPol p π) : ∃ k, k < 82 ∧ nextP p t (iterP p t k π) = iterP p t k π := by
  refine Classical.byContradiction fun z => ?_
  have nf : ∀ k, k < 82 → nextP p t (iterP p t k π) ≠ iterP p t k π := fun k hk e => z ⟨k, hk, e⟩
  have up : ∀ k, k < 82 → tot p t (iterP p t k π) < tot p t (iterP p t (k + 1) π) := fun k hk => by
    rw [iterP_succ]
    exact tot_lt W t (iterP_pol W t V k) (nf k hk)
  have up2 : ∀ d i, i + d < 82 → tot p t (iterP p t i π) < tot p t (iterP p t (i + d + 1) π) := fun d => by
    induction d with
    | zero => intro i hi; exact up i (by omega)
    | succ d ih =>
      intro i hi
      have h1 := ih i (by omega)
      have h2 := up (i + d + 1) (by omega)
      have e : i + (d + 1) + 1 = i + d + 1 + 1 := by omega
      rw [e]
      grind
  have nd : ((List.range 82).map fun k => code p.actionCount (iterP p t k π)).Nodup := by
    rw [List.nodup_iff_pairwise_ne, List.pairwise_map]
    refine List.Pairwise.imp_of_mem (R := (· < ·)) ?_ (List.pairwise_lt_range)
    intro i j hi hj hij e
    have hi' := List.mem_range.mp hi
    have hj' := List.mem_range.mp hj
    have V1 := iterP_pol W t V i
    have V2 := iterP_pol W t V j
    have e2 := code_inj _ _ (by rw [V1.len, V2.len]) V1.mem V2.mem e
    have := up2 (j - i - 1) i (by omega)
    rw [show i + (j - i - 1) + 1 = j by omega, e2] at this
    grind
  have := pigeon 81 _ nd fun x hx => by
    obtain ⟨k, _, rfl⟩ := List.mem_map.mp hx
    exact (iterP_pol W t V k).code_lt W
  simp at this
/-- the first place at which it stands -/
theorem ends_first {p : Process} (W : PWf p) (t : Nat) {π : List Nat} (V : VPol p π) : ∃ k, k < 82 ∧ nextP p t (iterP p t k π) = iterP p t k π ∧ ∀ i, i < k → nextP p t (iterP p t i π) ≠ iterP p t i π := by
  obtain ⟨k, hk, e⟩ := ends W t V
  induction k using Nat.strongRecOn with
  | ind k ih =>
    by_cases h : ∃ i, i < k ∧ nextP p t (iterP p t i π) = iterP p t i π
    · obtain ⟨i, hi, e'⟩ := h
      exact ih i hi (by omega) e'
    · exact ⟨k, hk, e, fun i hi e' => h ⟨i, hi, e'⟩⟩
theorem improve_eq (p : Process) (t : Nat) : ∀ (k r : Nat) (π : List Nat), k ≤ r → nextP p t (iterP p t k π) = iterP p t k π → (∀ i, i < k → nextP p t (iterP p t i π) ≠ iterP p t i π) → Kp389.improve p t r π = iterP p t k π
  | 0, 0, _, _, _, _ => rfl
  | 0, r + 1, π, _, e, _ => by
    unfold Kp389.improve
    exact if_pos e
  | k + 1, 0, _, h, _, _ => by omega
  | k + 1, r + 1, π, h, e, n => by
    unfold Kp389.improve
    have h0 : ¬ nextP p t π = π := n 0 (by omega)
    have := improve_eq p t k r (nextP p t π) (by omega) e fun i hi => n (i + 1) (by omega)
    exact (if_neg h0).trans this
def pol0 (p : Process) : List Nat := List.replicate p.stateCount 0
theorem pol0_pol {p : Process} (W : PWf p) : VPol p (pol0 p) := by
  refine ⟨by simp [pol0], fun s hs => ?_⟩
  have := W.m1
  unfold pol0
  rw [List.getD_eq_getElem?_getD, List.getElem?_replicate, if_pos hs]
  simp; omega
/-- the best policy of the specification -/
def bestP (p : Process) (t : Nat) : List Nat := Kp389.improve p t 100 (pol0 p)
theorem best_ex {p : Process} (W : PWf p) (t : Nat) : ∃ k, k < 82 ∧ nextP p t (iterP p t k (pol0 p)) = iterP p t k (pol0 p) ∧ (∀ i, i < k → nextP p t (iterP p t i (pol0 p)) ≠ iterP p t i (pol0 p)) ∧ bestP p t = iterP p t k (pol0 p) := by
  obtain ⟨k, hk, e, n⟩ := ends_first W t (pol0_pol W)
  exact ⟨k, hk, e, n, improve_eq p t k 100 _ (by omega) e n⟩
theorem bestP_pol {p : Process} (W : PWf p) (t : Nat) : VPol p (bestP p t) := by
  obtain ⟨k, _, _, _, e⟩ := best_ex W t
  rw [e]
  exact iterP_pol W t (pol0_pol W) k
theorem bestP_fix {p : Process} (W : PWf p) (t : Nat) : nextP p t (bestP p t) = bestP p t := by
  obtain ⟨k, _, e, _, e2⟩ := best_ex W t
  rw [e2, e]
/-- at the end no action is better -/
theorem bestP_ge {p : Process} (W : PWf p) (t : Nat) {s a : Nat} (hs : s < p.stateCount) (ha : a < p.actionCount) : qv p t (valQ p t (bestP p t)) s a ≤ valQ p t (bestP p t) s := by
  have V := bestP_pol W t
  obtain ⟨_, h2, _⟩ := bestOf_spec (qv p t (valQ p t (bestP p t)) s) (List.range p.actionCount) ((bestP p t).getD s 0)
  rw [← nextP_get W t V hs, bestP_fix W t] at h2
  have := h2 a (List.mem_range.mpr ha)
  rw [valQ_fix W t V hs] at this
  exact this
/-- no policy has a greater value -/
theorem bestP_opt {p : Process} (W : PWf p) (t : Nat) {π : List Nat} (V : VPol p π) : ∀ s, s < p.stateCount → valQ p t π s ≤ valQ p t (bestP p t) s := by
  have h := nonneg_of_super W (f := fun s => π.getD s 0) (fun s hs => V.lt s hs) (d := fun q => valQ p t (bestP p t) q - valQ p t π q) fun s hs => by
    have h1 := valQ_fix W t V hs
    have h2 := bestP_ge W t hs (V.lt s hs)
    rw [← qv_sub p t]
    grind
  intro s hs
  have := h s hs
  grind
end Sw
namespace Sw
open Kp389 (Process)
def redT (p : Process) (l : List Int) (t : Nat × Nat × Nat) : Int :=
  ((p.discountDen : Int) - (p.discountNum : Int)) * Kp389.rewardIn p l t.1 t.2.1 t.2.2 - (p.discountDen : Int) * Kp389.rewardIn p l t.1 0 t.1 + (p.discountNum : Int) * Kp389.rewardIn p l t.2.2 0 t.2.2
def redI (p : Process) (l : List Int) : List Int := (Kp389.triples p).map (redT p l)
theorem mem_triples {p : Process} {t : Nat × Nat × Nat} : t ∈ Kp389.triples p ↔ t.1 < p.stateCount ∧ t.2.1 < p.actionCount ∧ t.2.2 < p.stateCount := by
  obtain ⟨s, a, q⟩ := t
  unfold Kp389.triples Kp389.states Kp389.actions
  simp only [List.mem_flatMap, List.mem_map, List.mem_range, Prod.mk.injEq]
  constructor
  · rintro ⟨s', hs, a', ha, q', hq, rfl, rfl, rfl⟩; exact ⟨hs, ha, hq⟩
  · rintro ⟨hs, ha, hq⟩; exact ⟨s, hs, a, ha, q, hq, rfl, rfl, rfl⟩
theorem PWf.dq {p : Process} (W : PWf p) : (0 : Rat) < (p.discountDen : Rat) - (p.discountNum : Rat) := by
  have h1 : (p.discountNum : Rat) < (p.discountDen : Rat) := by have := W.gh; exact_mod_cast this
  grind
theorem PWf.subq {p : Process} (W : PWf p) : ((p.discountDen - p.discountNum : Nat) : Rat) = (p.discountDen : Rat) - (p.discountNum : Rat) := by
  have := W.gh
  have e : ((p.discountDen - p.discountNum : Nat) : Int) = (p.discountDen : Int) - (p.discountNum : Int) := by omega
  have : (((p.discountDen - p.discountNum : Nat) : Int) : Rat) = (((p.discountDen : Int) - (p.discountNum : Int) : Int) : Rat) := by rw [e]
  rw [Rat.intCast_sub] at this
  exact this
theorem pots_get {p : Process} {l : List Int} {s : Nat} (hs : s < p.stateCount) : (Kp389.potentialsOf p l).getD s 0 = -((Kp389.rewardIn p l s 0 s : Int) : Rat) * ((p.discountDen : Rat) / ((p.discountDen - p.discountNum : Nat) : Rat)) := by
  unfold Kp389.potentialsOf Kp389.states
  rw [row_get hs]
theorem canon_eq {p : Process} (W : PWf p) (l : List Int) : Kp389.canonicalForm p l = (Kp389.triples p).map fun t => ((redT p l t : Int) : Rat) / ((p.discountDen : Rat) - (p.discountNum : Rat)) := by
  unfold Kp389.canonicalForm
  refine List.map_congr_left fun t ht => ?_
  obtain ⟨h1, h2, h3⟩ := mem_triples.mp ht
  rw [pots_get h1, pots_get h3, W.subq]
  have hd := W.dq
  have hg := W.g_eq
  have hh := W.h_pos
  generalize hz : (p.discountDen : Rat) - (p.discountNum : Rat) = z at hd ⊢
  have e : ((redT p l t : Int) : Rat) = z * ((Kp389.rewardIn p l t.1 t.2.1 t.2.2 : Int) : Rat) - (p.discountDen : Rat) * ((Kp389.rewardIn p l t.1 0 t.1 : Int) : Rat) + (p.discountNum : Rat) * ((Kp389.rewardIn p l t.2.2 0 t.2.2 : Int) : Rat) := by
    unfold redT
    rw [Rat.intCast_add, Rat.intCast_sub, Rat.intCast_mul, Rat.intCast_mul, Rat.intCast_mul, Rat.intCast_sub, ← hz]
    rfl
  have hz0 : z ≠ 0 := by grind
  rw [e, ← hg]
  clear e hz hg
  generalize Kp389.discount p = g
  generalize ((Kp389.rewardIn p l t.1 t.2.1 t.2.2 : Int) : Rat) = a
  generalize ((Kp389.rewardIn p l t.1 0 t.1 : Int) : Rat) = b
  generalize ((Kp389.rewardIn p l t.2.2 0 t.2.2 : Int) : Rat) = c
  generalize (p.discountDen : Rat) = h
  grind
theorem diff_get {p : Process} (W : PWf p) {i : Nat} (hi : i < p.stateCount * p.actionCount * p.stateCount) : (Kp389.difference p).getD i 0 = p.rewards1.getD i 0 - p.rewards0.getD i 0 := by
  unfold Kp389.difference
  have h0 : i < p.rewards0.length := by rw [W.l0]; exact hi
  have h1 : i < p.rewards1.length := by rw [W.l1]; exact hi
  rw [List.getD_eq_getElem?_getD, List.getD_eq_getElem?_getD, List.getD_eq_getElem?_getD, List.getElem?_zipWith, List.getElem?_eq_getElem h0, List.getElem?_eq_getElem h1]
  rfl
theorem rin_diff {p : Process} (W : PWf p) {s a q : Nat} (hs : s < p.stateCount) (ha : a < p.actionCount) (hq : q < p.stateCount) : Kp389.rewardIn p (Kp389.difference p) s a q = Kp389.rewardIn p p.rewards1 s a q - Kp389.rewardIn p p.rewards0 s a q := by
  unfold Kp389.rewardIn
  exact diff_get W (lt_mul_of (lt_mul_of hs ha) hq)
theorem red_diff {p : Process} (W : PWf p) {t : Nat × Nat × Nat} (ht : t ∈ Kp389.triples p) : redT p (Kp389.difference p) t = redT p p.rewards1 t - redT p p.rewards0 t := by
  obtain ⟨h1, h2, h3⟩ := mem_triples.mp ht
  have hm := W.m1
  unfold redT
  rw [rin_diff W h1 h2 h3, rin_diff W h1 (by omega) h1, rin_diff W h3 (by omega) h3]
  grind
theorem div_eq_zero {a z : Rat} (hz : 0 < z) : a / z = 0 ↔ a = 0 := by
  have : z ≠ 0 := by grind
  constructor
  · intro h; grind
  · intro h; subst h; grind
theorem equiv_eq {p : Process} (W : PWf p) : Kp389.areEquivalent p = decide (redI p p.rewards0 = redI p p.rewards1) := by
  unfold Kp389.areEquivalent
  rw [canon_eq W, Bool.eq_iff_iff, decide_eq_true_iff]
  simp only [List.all_map, List.all_eq_true, Function.comp, beq_iff_eq]
  unfold redI
  rw [List.map_inj_left]
  refine forall_congr' fun t => forall_congr' fun ht => ?_
  rw [div_eq_zero W.dq, red_diff W ht]
  constructor
  · intro h
    have : redT p p.rewards1 t - redT p p.rewards0 t = 0 := Rat.intCast_inj.mp h
    omega
  · intro h
    rw [h]; simp
/-! the factor -/
def facI (A B : List Int) : Option Rat :=
  match A.findIdx? (· != 0) with
  | none => if B.findIdx? (· != 0) = none then some 1 else none
  | some i => if A.getD i 0 * B.getD i 0 ≤ 0 then none else if ∀ k, k < A.length → A.getD k 0 * B.getD i 0 = B.getD k 0 * A.getD i 0 then some (((B.getD i 0).natAbs : Rat) / ((A.getD i 0).natAbs : Rat)) else none
theorem getD_lt {l : List Int} {i : Nat} (h : i < l.length) : l[i]? = some (l.getD i 0) := by
  rw [List.getD_eq_getElem?_getD, List.getElem?_eq_getElem h]; rfl
theorem abs_div {a b : Int} (h : ¬ a * b ≤ 0) : ((b.natAbs : Rat) / (a.natAbs : Rat)) = (b : Rat) / (a : Rat) := by
  have h : 0 < a * b := by omega
  by_cases ha : 0 < a
  · have hb : 0 < b := Int.pos_of_mul_pos_right h (by omega)
    have e1 : ((a.natAbs : Nat) : Int) = a := by omega
    have e2 : ((b.natAbs : Nat) : Int) = b := by omega
    have f1 : ((a.natAbs : Nat) : Rat) = (a : Rat) := congrArg (fun z : Int => (z : Rat)) e1
    have f2 : ((b.natAbs : Nat) : Rat) = (b : Rat) := congrArg (fun z : Int => (z : Rat)) e2
    rw [f1, f2]
  · have ha' : a < 0 := by
      rcases Int.lt_trichotomy a 0 with z | z | z
      · exact z
      · subst z; simp at h
      · exact absurd z ha
    have hb : b < 0 := by
      have : 0 < (-a) * (-b) := by rw [Int.neg_mul_neg]; exact h
      have := Int.pos_of_mul_pos_right this (by omega)
      omega
    have e1 : ((a.natAbs : Nat) : Int) = -a := by omega
    have e2 : ((b.natAbs : Nat) : Int) = -b := by omega
    have f1 : ((a.natAbs : Nat) : Rat) = ((-a : Int) : Rat) := congrArg (fun z : Int => (z : Rat)) e1
    have f2 : ((b.natAbs : Nat) : Rat) = ((-b : Int) : Rat) := congrArg (fun z : Int => (z : Rat)) e2
    rw [f1, f2, Rat.intCast_neg, Rat.intCast_neg]
    have : (a : Rat) ≠ 0 := fun z => by
      have : a = 0 := Rat.intCast_inj.mp z
      omega
    grind
theorem cross {a b c d : Int} {z : Rat} (hz : 0 < z) (ha : a ≠ 0) : ((b : Rat) / z / ((a : Rat) / z) * ((c : Rat) / z) = (d : Rat) / z) ↔ c * b = d * a := by
  have ha' : (a : Rat) ≠ 0 := fun h => ha (Rat.intCast_inj.mp h)
  have hz' : z ≠ 0 := by grind
  have e : (c * b = d * a) ↔ ((c : Rat) * (b : Rat) = (d : Rat) * (a : Rat)) := by
    rw [← Rat.intCast_mul, ← Rat.intCast_mul]
    exact Rat.intCast_inj.symm
  rw [e]
  constructor
  · intro h; grind
  · intro h; grind
theorem pos_iff {a b : Int} {z : Rat} (hz : 0 < z) (ha : a ≠ 0) : 0 < (b : Rat) / z / ((a : Rat) / z) ↔ 0 < a * b := by
  have ha' : (a : Rat) ≠ 0 := fun h => ha (Rat.intCast_inj.mp h)
  have hz' : z ≠ 0 := by grind
  have e : (b : Rat) / z / ((a : Rat) / z) = ((a * b : Int) : Rat) / ((a : Rat) * (a : Rat)) := by
    rw [Rat.intCast_mul]; grind
  have hp : 0 < (a : Rat) * (a : Rat) := by
    rcases Int.lt_trichotomy a 0 with h | h | h
    · have : (a : Rat) < 0 := by exact_mod_cast h
      have := Rat.mul_pos (a := -(a : Rat)) (b := -(a : Rat)) (by grind) (by grind)
      grind
    · exact absurd h ha
    · have : (0 : Rat) < (a : Rat) := by exact_mod_cast h
      exact Rat.mul_pos this this
  rw [e]
  constructor
  · intro h
    have h2 := Rat.mul_pos h hp
    have : ((a * b : Int) : Rat) / ((a : Rat) * (a : Rat)) * ((a : Rat) * (a : Rat)) = ((a * b : Int) : Rat) := by
      generalize (a : Rat) * (a : Rat) = y at hp
      grind
    rw [this] at h2
    exact_mod_cast h2
  · intro h
    have h2 : (0 : Rat) < ((a * b : Int) : Rat) := by exact_mod_cast h
    rw [Rat.div_def]
    exact Rat.mul_pos h2 (Rat.inv_pos.mpr hp)
theorem factor_lists {A B : List Int} (hl : A.length = B.length) {z : Rat} (hz : 0 < z) :
    (match ((A.map fun (x : Int) => (x : Rat) / z).zip (B.map fun (x : Int) => (x : Rat) / z)).find? fun x => x.1 != 0 || x.2 != 0 with
      | none => some (1 : Rat)
      | some x => if x.1 = 0 then none else if 0 < x.2 / x.1 ∧ (((A.map fun (x : Int) => (x : Rat) / z).zip (B.map fun (x : Int) => (x : Rat) / z)).all fun y => x.2 / x.1 * y.1 == y.2) = true then some (x.2 / x.1) else none) = facI A B := by
  have zl : ((A.map fun (x : Int) => (x : Rat) / z).zip (B.map fun (x : Int) => (x : Rat) / z)).length = A.length := by simp [hl]
  have zg : ∀ i, i < A.length → ((A.map fun (x : Int) => (x : Rat) / z).zip (B.map fun (x : Int) => (x : Rat) / z))[i]? = some (((A.getD i 0 : Int) : Rat) / z, ((B.getD i 0 : Int) : Rat) / z) := fun i hi => by
    rw [List.getElem?_zip_eq_some, List.getElem?_map, List.getElem?_map, getD_lt hi, getD_lt (by omega)]
    exact ⟨rfl, rfl⟩
  have nz : ∀ (x : Int), ((x : Rat) / z = 0) ↔ x = 0 := fun x => by
    rw [div_eq_zero hz]
    constructor
    · intro h; exact Rat.intCast_inj.mp h
    · intro h; rw [h]; rfl
  generalize hP : (A.map fun (x : Int) => (x : Rat) / z).zip (B.map fun (x : Int) => (x : Rat) / z) = P at zl zg
  have memP : ∀ y ∈ P, ∃ i, i < A.length ∧ y = (((A.getD i 0 : Int) : Rat) / z, ((B.getD i 0 : Int) : Rat) / z) := fun y hy => by
    obtain ⟨i, hi, rfl⟩ := List.mem_iff_getElem.mp hy
    have hi' : i < A.length := by omega
    refine ⟨i, hi', ?_⟩
    have := zg i hi'
    rw [List.getElem?_eq_getElem hi] at this
    exact Option.some.inj this
  have inP : ∀ i, i < A.length → (((A.getD i 0 : Int) : Rat) / z, ((B.getD i 0 : Int) : Rat) / z) ∈ P := fun i hi => List.mem_of_getElem? (zg i hi)
  cases hf : P.find? (fun x => x.1 != 0 || x.2 != 0) with
  | none =>
    rw [List.find?_eq_none] at hf
    have all0 : ∀ i, i < A.length → A.getD i 0 = 0 ∧ B.getD i 0 = 0 := fun i hi => by
      have := hf _ (inP i hi)
      simp only [bne_iff_ne, Bool.or_eq_true, not_or, ne_eq, Decidable.not_not] at this
      exact ⟨(nz _).mp this.1, (nz _).mp this.2⟩
    have hA : A.findIdx? (· != 0) = none := by
      rw [List.findIdx?_eq_none_iff]
      intro x hx
      obtain ⟨i, hi, rfl⟩ := List.mem_iff_getElem.mp hx
      have := (all0 i hi).1
      rw [List.getD_eq_getElem?_getD, List.getElem?_eq_getElem hi] at this
      simpa using this
    have hB : B.findIdx? (· != 0) = none := by
      rw [List.findIdx?_eq_none_iff]
      intro x hx
      obtain ⟨i, hi, rfl⟩ := List.mem_iff_getElem.mp hx
      have := (all0 i (by omega)).2
      rw [List.getD_eq_getElem?_getD, List.getElem?_eq_getElem hi] at this
      simpa using this
    unfold facI
    rw [hA]
    simp only [hB, if_true]
  | some x =>
    rw [List.find?_eq_some_iff_getElem] at hf
    obtain ⟨hx, i, hi, rfl, before⟩ := hf
    have hi' : i < A.length := by omega
    have ex : P[i] = (((A.getD i 0 : Int) : Rat) / z, ((B.getD i 0 : Int) : Rat) / z) := by
      have := zg i hi'
      rw [List.getElem?_eq_getElem hi] at this
      exact Option.some.inj this
    rw [ex] at hx ⊢
    have bz : ∀ j, j < i → A.getD j 0 = 0 ∧ B.getD j 0 = 0 := fun j hj => by
      have h1 := before j hj
      have ej : P[j] = (((A.getD j 0 : Int) : Rat) / z, ((B.getD j 0 : Int) : Rat) / z) := by
        have := zg j (by omega)
        rw [List.getElem?_eq_getElem (by omega)] at this
        exact Option.some.inj this
      rw [ej] at h1
      simp only [Bool.not_eq_true', Bool.or_eq_false_iff, bne_eq_false_iff_eq] at h1
      exact ⟨(nz _).mp h1.1, (nz _).mp h1.2⟩
    simp only [bne_iff_ne, Bool.or_eq_true, ne_eq] at hx
    by_cases hA0 : A.getD i 0 = 0
    · have hB0 : B.getD i 0 ≠ 0 := fun h => by
        rcases hx with hx | hx
        · exact hx ((nz _).mpr hA0)
        · exact hx ((nz _).mpr h)
      simp only [(nz _).mpr hA0, if_true]
      symm
      unfold facI
      cases hA : A.findIdx? (· != 0) with
      | none =>
        simp only []
        rw [if_neg]
        intro h
        rw [List.findIdx?_eq_none_iff] at h
        have := h (B.getD i 0) (List.mem_of_getElem? (getD_lt (by omega)))
        simp at this
        exact hB0 (by simpa using this)
      | some j =>
        simp only []
        rw [List.findIdx?_eq_some_iff_getElem] at hA
        obtain ⟨hj, h1, _⟩ := hA
        by_cases c : A.getD j 0 * B.getD j 0 ≤ 0
        · rw [if_pos c]
        · rw [if_neg c, if_neg]
          intro h
          have := h i hi'
          rw [hA0, Int.zero_mul] at this
          have hAj : A.getD j 0 ≠ 0 := fun z => c (by rw [z, Int.zero_mul]; exact Int.le_refl _)
          rcases Int.mul_eq_zero.mp this.symm with h | h
          · exact hB0 h
          · exact hAj h
    · have hAi : A.findIdx? (· != 0) = some i := by
        rw [List.findIdx?_eq_some_iff_getElem]
        refine ⟨hi', ?_, fun j hj => ?_⟩
        · rw [List.getD_eq_getElem?_getD, List.getElem?_eq_getElem hi'] at hA0
          simpa using hA0
        · have := (bz j hj).1
          rw [List.getD_eq_getElem?_getD, List.getElem?_eq_getElem (by omega : j < A.length)] at this
          simpa using this
      have n1 : ¬ ((A.getD i 0 : Int) : Rat) / z = 0 := fun h => hA0 ((nz _).mp h)
      simp only [if_neg n1]
      unfold facI
      rw [hAi]
      simp only []
      have hp := pos_iff (b := B.getD i 0) hz hA0
      have hall : ((P.all fun y => ((B.getD i 0 : Int) : Rat) / z / (((A.getD i 0 : Int) : Rat) / z) * y.1 == y.2) = true) ↔ ∀ k, k < A.length → A.getD k 0 * B.getD i 0 = B.getD k 0 * A.getD i 0 := by
        rw [List.all_eq_true]
        constructor
        · intro h k hk
          have := h _ (inP k hk)
          rw [beq_iff_eq] at this
          exact (cross hz hA0).mp this
        · intro h y hy
          obtain ⟨k, hk, rfl⟩ := memP y hy
          rw [beq_iff_eq]
          exact (cross hz hA0).mpr (h k hk)
      by_cases c : A.getD i 0 * B.getD i 0 ≤ 0
      · rw [if_pos c, if_neg (fun h => by have := hp.mp h.1; omega)]
      · rw [if_neg c]
        by_cases c2 : ∀ k, k < A.length → A.getD k 0 * B.getD i 0 = B.getD k 0 * A.getD i 0
        · rw [if_pos ⟨hp.mpr (by omega), hall.mpr c2⟩, if_pos c2, abs_div c]
          congr 1
          have ha' : ((A.getD i 0 : Int) : Rat) ≠ 0 := fun h => hA0 (Rat.intCast_inj.mp h)
          have hz' : z ≠ 0 := by grind
          generalize ((A.getD i 0 : Int) : Rat) = x at ha' ⊢
          generalize ((B.getD i 0 : Int) : Rat) = y
          grind
        · rw [if_neg (fun h => c2 (hall.mp h.2)), if_neg c2]
theorem factor_eq {p : Process} (W : PWf p) : Kp389.factor p = facI (redI p p.rewards0) (redI p p.rewards1) := by
  rw [← factor_lists (by simp [redI]) W.dq]
  unfold Kp389.factor
  rw [canon_eq W, canon_eq W]
  unfold redI
  simp only [List.map_map]
  rfl
end Sw
namespace Sw
open Kp389 (Process)
/-! ### how large determinants are -/
def bdF : Nat → Nat → Nat
  | 0, _ => 1
  | n + 1, B => (n + 1) * (B * bdF n B)
theorem sumZ_abs {n c : Nat} {f : Nat → Int} (h : ∀ i, i < n → (f i).natAbs ≤ c) : (sumZ n f).natAbs ≤ n * c := by
  induction n with
  | zero => simp [sumZ]
  | succ n ih =>
    simp only [sumZ]
    have h1 := ih fun i hi => h i (by omega)
    have h2 := h n (by omega)
    have h3 := Int.natAbs_add_le (sumZ n f) (f n)
    rw [Nat.succ_mul]; omega
theorem sgn_abs (k : Nat) : (sgn k).natAbs = 1 := by unfold sgn; split <;> rfl
theorem getD_abs {l : List Int} {B : Nat} (h : ∀ x ∈ l, x.natAbs ≤ B) (k : Nat) : (l.getD k 0).natAbs ≤ B := by
  by_cases hk : k < l.length
  · rw [List.getD_eq_getElem?_getD, List.getElem?_eq_getElem hk]
    exact h _ (List.getElem_mem hk)
  · rw [List.getD_eq_getElem?_getD, List.getElem?_eq_none (by omega)]; exact Nat.zero_le _
theorem det_abs (B : Nat) : ∀ (n : Nat) (rows : List (List Int)), (∀ r ∈ rows, ∀ x ∈ r, x.natAbs ≤ B) → (det n rows).natAbs ≤ bdF n B
  | 0, _, _ => by simp [det, bdF]
  | n + 1, rows, h => by
    unfold det bdF
    refine sumZ_abs fun k hk => ?_
    have h1 : ((rows.getD 0 []).getD k 0).natAbs ≤ B := getD_abs (fun x hx => by
      by_cases hr : 0 < rows.length
      · rw [List.getD_eq_getElem?_getD, List.getElem?_eq_getElem hr] at hx
        exact h _ (List.getElem_mem hr) x hx
      · rw [List.getD_eq_getElem?_getD, List.getElem?_eq_none (by omega)] at hx
        cases hx) k
    have h2 := det_abs B n (rows.tail.map fun r => without r k) fun r hr x hx => by
      obtain ⟨r', hr', rfl⟩ := List.mem_map.mp hr
      refine h r' (List.mem_of_mem_tail hr') x ?_
      unfold without at hx
      rcases List.mem_append.mp hx with hx | hx
      · exact List.mem_of_mem_take hx
      · exact List.mem_of_mem_drop hx
    rw [Int.natAbs_mul, Int.natAbs_mul, sgn_abs, Nat.one_mul]
    exact Nat.mul_le_mul h1 h2
theorem detF_abs {n B : Nat} {A : Nat → Nat → Int} (h : ∀ i j, i < n → j < n → (A i j).natAbs ≤ B) : (detF n A).natAbs ≤ bdF n B := by
  refine det_abs B n _ fun r hr x hx => ?_
  obtain ⟨i, hi, rfl⟩ := List.mem_map.mp hr
  obtain ⟨j, hj, rfl⟩ := List.mem_map.mp hx
  exact h i j (List.mem_range.mp hi) (List.mem_range.mp hj)
theorem sum_le9' : ∀ (l : List Nat), (∀ x ∈ l, x ≤ 9) → l.sum ≤ 9 * l.length
  | [], _ => by simp
  | a :: l, h => by
    have h1 := h a List.mem_cons_self
    have h2 := sum_le9' l fun x hx => h x (List.mem_cons_of_mem _ hx)
    rw [List.sum_cons, List.length_cons]; omega
theorem wsum36 {p : Process} (W : PWf p) {s a : Nat} (hs : s < p.stateCount) (ha : a < p.actionCount) : wsum p s a ≤ 36 := by
  have h1 := sum_le9' _ (W.wle hs ha)
  rw [W.wlen hs ha] at h1
  have := W.n4
  unfold wsum
  omega
theorem wt9 {p : Process} (W : PWf p) {s a : Nat} (hs : s < p.stateCount) (ha : a < p.actionCount) (q : Nat) : 0 ≤ wt p s a q ∧ wt p s a q ≤ 9 := by
  refine ⟨wt_nonneg p s a q, ?_⟩
  unfold wt
  by_cases h : q < (Kp389.weights p s a).length
  · have := W.wle hs ha ((Kp389.weights p s a).getD q 0) (by rw [List.getD_eq_getElem?_getD, List.getElem?_eq_getElem h]; exact List.getElem_mem h)
    omega
  · rw [List.getD_eq_getElem?_getD, List.getElem?_eq_none (by omega)]
    simp
theorem eqE_abs {p : Process} (W : PWf p) {s a : Nat} (hs : s < p.stateCount) (ha : a < p.actionCount) (j : Nat) : (eqE p s a j).natAbs ≤ 400 := by
  obtain ⟨w1, w2⟩ := wt9 W hs ha j
  have w3 := wsum36 W hs ha
  have w4 := W.wsum_pos hs ha
  have hg := W.g1
  have hgh := W.gh
  have h10 := W.h10
  have e1 : (p.discountNum : Int) * wt p s a j ≤ 9 * 9 := Int.mul_le_mul (by omega) w2 w1 (by decide)
  have e2 : 0 ≤ (p.discountNum : Int) * wt p s a j := Int.mul_nonneg (by omega) w1
  have e3 : (p.discountDen : Int) * wsum p s a ≤ 10 * 36 := Int.mul_le_mul (by omega) w3 (by omega) (by decide)
  have e4 : 0 ≤ (p.discountDen : Int) * wsum p s a := Int.mul_nonneg (by omega) (by omega)
  unfold eqE
  split <;> omega
theorem rew_abs {p : Process} (W : PWf p) (t s a q : Nat) : (Kp389.reward p t s a q).natAbs ≤ 100000 := by
  unfold Kp389.reward Kp389.rewardIn
  refine getD_abs (fun x hx => ?_) _
  unfold Kp389.rewards at hx
  split at hx
  · have := W.b0 x hx
    omega
  · have := W.b1 x hx
    omega
theorem sideI_abs {p : Process} (W : PWf p) (t : Nat) {s a : Nat} (hs : s < p.stateCount) (ha : a < p.actionCount) : (sideI p t s a).natAbs ≤ 36000000 := by
  unfold sideI
  have h1 : (sumZ p.stateCount fun q => wt p s a q * Kp389.reward p t s a q).natAbs ≤ p.stateCount * 900000 := by
    refine sumZ_abs fun q hq => ?_
    rw [Int.natAbs_mul]
    obtain ⟨w1, w2⟩ := wt9 W hs ha q
    exact Nat.le_trans (Nat.mul_le_mul (by omega : (wt p s a q).natAbs ≤ 9) (rew_abs W t s a q)) (by decide)
  have h4 := W.n4
  have h10 := W.h10
  rw [Int.natAbs_mul]
  have : (p.discountDen : Int).natAbs * (sumZ p.stateCount fun q => wt p s a q * Kp389.reward p t s a q).natAbs ≤ 10 * 3600000 := Nat.mul_le_mul (by omega) (by omega)
  omega
theorem bot_abs {p : Process} (W : PWf p) {π : List Nat} (V : VPol p π) : (bot p π).natAbs < 2 ^ 41 := by
  have h : (bot p π).natAbs ≤ bdF p.stateCount 400 := detF_abs fun i j hi _ => eqE_abs W hi (V.lt i hi) j
  have hn : p.stateCount = 2 ∨ p.stateCount = 3 ∨ p.stateCount = 4 := by have := W.n2; have := W.n4; omega
  rcases hn with e | e | e <;> rw [e] at h <;> exact Nat.lt_of_le_of_lt h (by decide)
theorem top_abs {p : Process} (W : PWf p) (t : Nat) {π : List Nat} (V : VPol p π) (k : Nat) : (topOf p t π k).natAbs < 2 ^ 110 := by
  have h : (topOf p t π k).natAbs ≤ bdF p.stateCount 36000000 := detF_abs fun i j hi _ => by
    unfold colRep
    split
    · exact sideI_abs W t hi (V.lt i hi)
    · exact Nat.le_trans (eqE_abs W hi (V.lt i hi) j) (by decide)
  have hn : p.stateCount = 2 ∨ p.stateCount = 3 ∨ p.stateCount = 4 := by have := W.n2; have := W.n4; omega
  rcases hn with e | e | e <;> rw [e] at h <;> exact Nat.lt_of_le_of_lt h (by decide)
/-! ### a fraction of an action -/
def avTop (p : Process) (t : Nat) (π : List Nat) (s a : Nat) : Int := sumZ p.stateCount fun q => wt p s a q * ((p.discountDen : Int) * bot p π * Kp389.reward p t s a q + (p.discountNum : Int) * topOf p t π q)
def avBot (p : Process) (π : List Nat) (s a : Nat) : Int := (p.discountDen : Int) * bot p π * wsum p s a
theorem avBot_bd {p : Process} (W : PWf p) {π : List Nat} (V : VPol p π) {s a : Nat} (hs : s < p.stateCount) (ha : a < p.actionCount) : 0 < avBot p π s a ∧ avBot p π s a < 2 ^ 50 := by
  have h1 := bot_pos W V
  have h2 := bot_abs W V
  have w3 := wsum36 W hs ha
  have w4 := W.wsum_pos hs ha
  have hg := W.g1
  have hgh := W.gh
  have h10 := W.h10
  have e1 : (p.discountDen : Int) * bot p π ≤ 10 * 2 ^ 41 := Int.mul_le_mul (by omega) (by omega) (by omega) (by decide)
  have e2 : 0 < (p.discountDen : Int) * bot p π := Int.mul_pos (by omega) h1
  have e3 : (p.discountDen : Int) * bot p π * wsum p s a ≤ (10 * 2 ^ 41) * 36 := Int.mul_le_mul e1 w3 (by omega) (by decide)
  unfold avBot
  exact ⟨Int.mul_pos e2 w4, Int.lt_of_le_of_lt e3 (by decide)⟩
theorem avQ {p : Process} (W : PWf p) (t : Nat) {π : List Nat} (V : VPol p π) {s a : Nat} (hs : s < p.stateCount) (ha : a < p.actionCount) : qv p t (valQ p t π) s a = ((avTop p t π s a : Int) : Rat) / ((avBot p π s a : Int) : Rat) := by
  have hb : (0 : Rat) < ((bot p π : Int) : Rat) := by have := bot_pos W V; exact_mod_cast this
  have hw : (0 : Rat) < ((wsum p s a : Int) : Rat) := by have := W.wsum_pos hs ha; exact_mod_cast this
  have hh := W.h_pos
  have c4 := exp_eq W (t := t) hs ha
  have e2 : (((p.discountDen : Nat) : Int) : Rat) = (p.discountDen : Rat) := rfl
  have e2' : (((p.discountNum : Nat) : Int) : Rat) = (p.discountNum : Rat) := rfl
  have gq := W.g_eq
  have ewq : ev p s a (valQ p t π) * ((wsum p s a : Int) : Rat) * ((bot p π : Int) : Rat) = sumN p.stateCount (fun q => ((wt p s a q : Int) : Rat) * ((topOf p t π q : Int) : Rat)) := by
    unfold ev
    have : sumN p.stateCount (fun q => ((wt p s a q : Int) : Rat) * ((topOf p t π q : Int) : Rat)) = sumN p.stateCount (fun q => (((wsum p s a : Int) : Rat) * ((bot p π : Int) : Rat)) * (Kp389.probability p s a q * valQ p t π q)) := sumN_congr fun q _ => by
      rw [← probE W hs ha q]
      unfold valQ
      have : ((bot p π : Int) : Rat) ≠ 0 := by grind
      grind
    rw [this, sumN_mul]
    grind
  have et : ((avTop p t π s a : Int) : Rat) = ((bot p π : Int) : Rat) * ((sideI p t s a : Int) : Rat) + (p.discountNum : Rat) * sumN p.stateCount (fun q => ((wt p s a q : Int) : Rat) * ((topOf p t π q : Int) : Rat)) := by
    unfold avTop sideI
    rw [Rat.intCast_mul, sumZ_cast, sumZ_cast, e2, ← sumN_mul, ← sumN_mul, ← sumN_mul, ← sumN_add]
    refine sumN_congr fun q _ => ?_
    simp only [Rat.intCast_mul, Rat.intCast_add, e2, e2']
    grind
  have eb : ((avBot p π s a : Int) : Rat) = (p.discountDen : Rat) * ((bot p π : Int) : Rat) * ((wsum p s a : Int) : Rat) := by
    unfold avBot
    rw [Rat.intCast_mul, Rat.intCast_mul, e2]
  rw [et, eb, ← c4, ← ewq, ← gq]
  unfold qv
  have n1 : ((bot p π : Int) : Rat) ≠ 0 := by grind
  have n2 : ((wsum p s a : Int) : Rat) ≠ 0 := by grind
  have n3 : (p.discountDen : Rat) ≠ 0 := by grind
  grind
/-- fractions compared -/
theorem lt_cross {a b c e : Int} (hb : 0 < b) (he : 0 < e) : ((c : Rat) / (e : Rat) < (a : Rat) / (b : Rat)) ↔ c * b < a * e := by
  have hb' : (0 : Rat) < (b : Rat) := by exact_mod_cast hb
  have he' : (0 : Rat) < (e : Rat) := by exact_mod_cast he
  have key : ((c : Rat) * (b : Rat) < (a : Rat) * (e : Rat)) ↔ c * b < a * e := by
    rw [← Rat.intCast_mul, ← Rat.intCast_mul]; exact Rat.intCast_lt_intCast
  rw [← key]
  have n1 : (b : Rat) ≠ 0 := by grind
  have n2 : (e : Rat) ≠ 0 := by grind
  have p := Rat.mul_pos hb' he'
  have ea : (a : Rat) * (e : Rat) = ((b : Rat) * (e : Rat)) * ((a : Rat) / (b : Rat)) := by grind
  have ec : (c : Rat) * (b : Rat) = ((b : Rat) * (e : Rat)) * ((c : Rat) / (e : Rat)) := by grind
  rw [ea, ec]
  exact (Rat.mul_lt_mul_left p).symm
end Sw
namespace Sw
open PySem PySem.Spec PyProof.Rows L2
/-! ### data as the heap holds them -/
inductive D where
  | non | bl (b : Bool) | int (i : Int) | raw (v : V) | lst (xs : List D) | ro (xs : List D) | tup (xs : List D) | proc (p : Kp389.Process)
def intD (ns : List Int) : D := .lst (ns.map D.int)
def iV (ns : List Int) : List V := ns.map V.int
/-- rows of ints at addresses -/
def RowsAt (H : Hp) : List Addr → List (List Int) → Prop
  | [], [] => True
  | a :: as, r :: rs => H a = some (.lst (iV r)) ∧ RowsAt H as rs
  | _, _ => False
def wInt (l : List (List Nat)) : List (List Int) := l.map fun r => r.map fun (x : Nat) => (x : Int)
def pF (p : Kp389.Process) (tb wb : Addr) : List (Str × V) :=
  [("states", .int p.stateCount), ("actions", .int p.actionCount), ("top", .int p.discountNum), ("bottom", .int p.discountDen), ("tables", .ref tb), ("weights", .ref wb)]
structure ProcAt (C : Addr) (H : Hp) (a : Addr) (p : Kp389.Process) : Prop where
  ex : ∃ (dx tb t0 t1 wb : Addr) (ws : List Addr), H a = some (.ins C dx (pF p tb wb)) ∧ H tb = some (.lst [.ref t0, .ref t1]) ∧ H t0 = some (.lst (iV p.rewards0)) ∧ H t1 = some (.lst (iV p.rewards1)) ∧
    H wb = some (.lst (ws.map V.ref)) ∧ RowsAt H ws (wInt p.transitions)
mutual
def Rp (K : PySem.W.Frag) (C : Addr) (H : Hp) : V → D → Prop
  | v, .non => v = .non
  | v, .bl b => v = .bl b
  | v, .int i => v = .int i
  | v, .raw u => v = u
  | v, .lst ds => ∃ a xs, v = .ref a ∧ H a = some (.lst xs) ∧ RpAll K C H xs ds
  | v, .ro ds => ∃ a xs, v = .ref a ∧ SqL K H a xs ∧ RpAll K C H xs ds
  | v, .tup ds => ∃ a xs, v = .ref a ∧ SqT K H a xs ∧ RpAll K C H xs ds
  | v, .proc p => ∃ a, v = .ref a ∧ ProcAt C H a p
def RpAll (K : PySem.W.Frag) (C : Addr) (H : Hp) : List V → List D → Prop
  | [], [] => True
  | v :: vs, d :: ds => Rp K C H v d ∧ RpAll K C H vs ds
  | _, _ => False
end
def Ex (H H' : Hp) : Prop := ∀ a o, H a = some o → H' a = some o
theorem Ex.refl (H : Hp) : Ex H H := fun _ _ h => h
theorem Ex.trans {H H1 H2 : Hp} (a : Ex H H1) (b : Ex H1 H2) : Ex H H2 := fun x o h => b x o (a x o h)
theorem Ex.new {H : Hp} {p : Addr} {o : HO} (h : H p = none) : Ex H (upd H p o) := fun a u e => by
  rw [upd_ne (ne_of_none e h)]
  exact e
theorem Ex.both {H A : Hp} {p : Addr} {o : HO} (e : Ex H A) : Ex (upd H p o) (upd A p o) := fun a u h => by
  by_cases q : a = p
  · subst q; rw [upd_same] at h ⊢; exact h
  · rw [upd_ne q] at h ⊢; exact e a u h
theorem Ex.mut {H A : Hp} {p : Addr} {o : HO} (e : Ex H A) (h : H p = none) : Ex H (upd A p o) := fun a u q => by
  rw [upd_ne (ne_of_none q h)]
  exact e a u q
theorem Ex.free {H A : Hp} {p : Addr} (e : Ex H A) (h : A p = none) : H p = none := by
  cases q : H p with
  | none => rfl
  | some o => rw [e p o q] at h; cases h
section
variable {K : PySem.W.Frag} {C : Addr}
theorem sql_mono {H H' : Hp} (e : Ex H H') {a : Addr} {xs : List V} (h : SqL K H a xs) : SqL K H' a xs := by
  rcases h with (h | ⟨o, h⟩) | h
  · exact .inl (.inl (e _ _ h))
  · exact .inl (.inr ⟨o, e _ _ h⟩)
  · exact .inr h
theorem sqt_mono {H H' : Hp} (e : Ex H H') {a : Addr} {xs : List V} (h : SqT K H a xs) : SqT K H' a xs := by
  rcases h with (h | ⟨o, h⟩) | h
  · exact .inl (.inl (e _ _ h))
  · exact .inl (.inr ⟨o, e _ _ h⟩)
  · exact .inr h
theorem rows_mono {H H' : Hp} (e : Ex H H') : ∀ {as : List Addr} {rs : List (List Int)}, RowsAt H as rs → RowsAt H' as rs
  | [], [], _ => True.intro
  | _ :: _, _ :: _, h => ⟨e _ _ h.1, rows_mono e h.2⟩
  | [], _ :: _, h => h.elim
  | _ :: _, [], h => h.elim
theorem proc_mono {H H' : Hp} (e : Ex H H') {a : Addr} {p : Kp389.Process} (h : ProcAt C H a p) : ProcAt C H' a p := by
  obtain ⟨dx, tb, t0, t1, wb, ws, h1, h2, h3, h4, h5, h6⟩ := h.ex
  exact ⟨dx, tb, t0, t1, wb, ws, e _ _ h1, e _ _ h2, e _ _ h3, e _ _ h4, e _ _ h5, rows_mono e h6⟩
mutual
theorem rp_mono {H H' : Hp} (e : Ex H H') : ∀ (d : D) (v : V), Rp K C H v d → Rp K C H' v d
  | .non, _, h => by simpa only [Rp] using h
  | .bl _, _, h => by simpa only [Rp] using h
  | .int _, _, h => by simpa only [Rp] using h
  | .raw _, _, h => by simpa only [Rp] using h
  | .lst ds, _, h => by
    simp only [Rp] at h ⊢
    obtain ⟨a, xs, e1, e2, e3⟩ := h
    exact ⟨a, xs, e1, e _ _ e2, rpAll_mono e ds xs e3⟩
  | .ro ds, _, h => by
    simp only [Rp] at h ⊢
    obtain ⟨a, xs, e1, e2, e3⟩ := h
    exact ⟨a, xs, e1, sql_mono e e2, rpAll_mono e ds xs e3⟩
  | .tup ds, _, h => by
    simp only [Rp] at h ⊢
    obtain ⟨a, xs, e1, e2, e3⟩ := h
    exact ⟨a, xs, e1, sqt_mono e e2, rpAll_mono e ds xs e3⟩
  | .proc p, _, h => by
    simp only [Rp] at h ⊢
    obtain ⟨a, e1, e2⟩ := h
    exact ⟨a, e1, proc_mono e e2⟩
theorem rpAll_mono {H H' : Hp} (e : Ex H H') : ∀ (ds : List D) (vs : List V), RpAll K C H vs ds → RpAll K C H' vs ds
  | [], [], _ => by simp only [RpAll]
  | [], _ :: _, h => by simp only [RpAll] at h
  | _ :: _, [], h => by simp only [RpAll] at h
  | d :: ds, v :: vs, h => by
    simp only [RpAll] at h ⊢
    exact ⟨rp_mono e d v h.1, rpAll_mono e ds vs h.2⟩
end
theorem rpAll_len {H : Hp} : ∀ {vs : List V} {ds : List D}, RpAll K C H vs ds → vs.length = ds.length
  | [], [], _ => rfl
  | [], _ :: _, h => by simp only [RpAll] at h
  | _ :: _, [], h => by simp only [RpAll] at h
  | _ :: vs, _ :: ds, h => by
    simp only [RpAll] at h
    simp [rpAll_len h.2]
theorem rpAll_get {H : Hp} : ∀ {vs : List V} {ds : List D} {i : Nat} {d : D}, RpAll K C H vs ds → ds[i]? = some d → ∃ v, vs[i]? = some v ∧ Rp K C H v d
  | [], [], _, _, _, e => by simp at e
  | [], _ :: _, _, _, h, _ => by simp only [RpAll] at h
  | _ :: _, [], _, _, h, _ => by simp only [RpAll] at h
  | v :: vs, d' :: ds, 0, d, h, e => by
    simp only [RpAll] at h
    have : d' = d := by simpa using e
    subst this
    exact ⟨v, rfl, h.1⟩
  | v :: vs, d' :: ds, i + 1, d, h, e => by
    simp only [RpAll] at h
    obtain ⟨u, hu, r⟩ := rpAll_get (i := i) h.2 (by simpa using e)
    exact ⟨u, by simpa using hu, r⟩
theorem rpAll_app {H : Hp} : ∀ {vs us : List V} {ds es : List D}, RpAll K C H vs ds → RpAll K C H us es → RpAll K C H (vs ++ us) (ds ++ es)
  | [], _, [], _, _, h => h
  | [], _, _ :: _, _, h, _ => by simp only [RpAll] at h
  | _ :: _, _, [], _, h, _ => by simp only [RpAll] at h
  | v :: vs, us, d :: ds, es, h, g => by
    simp only [RpAll] at h
    show RpAll K C H (v :: (vs ++ us)) (d :: (ds ++ es))
    simp only [RpAll]
    exact ⟨h.1, rpAll_app h.2 g⟩
theorem rpAll_take {H : Hp} : ∀ (n : Nat) {vs : List V} {ds : List D}, RpAll K C H vs ds → RpAll K C H (vs.take n) (ds.take n)
  | 0, _, _, _ => by simp only [List.take_zero, RpAll]
  | _ + 1, [], [], _ => by simp only [List.take_nil, RpAll]
  | _ + 1, [], _ :: _, h => by simp only [RpAll] at h
  | _ + 1, _ :: _, [], h => by simp only [RpAll] at h
  | n + 1, v :: vs, d :: ds, h => by
    simp only [RpAll] at h
    simp only [List.take_succ_cons, RpAll]
    exact ⟨h.1, rpAll_take n h.2⟩
theorem rpAll_drop {H : Hp} : ∀ (n : Nat) {vs : List V} {ds : List D}, RpAll K C H vs ds → RpAll K C H (vs.drop n) (ds.drop n)
  | 0, _, _, h => h
  | _ + 1, [], [], _ => by simp only [List.drop_nil, RpAll]
  | _ + 1, [], _ :: _, h => by simp only [RpAll] at h
  | _ + 1, _ :: _, [], h => by simp only [RpAll] at h
  | n + 1, v :: vs, d :: ds, h => by
    simp only [RpAll] at h
    exact rpAll_drop n h.2
theorem rpAll_set {H : Hp} : ∀ (n : Nat) {vs : List V} {ds : List D} {v : V} {d : D}, RpAll K C H vs ds → Rp K C H v d → RpAll K C H (vs.set n v) (ds.set n d)
  | _, [], [], _, _, _, _ => by simp only [List.set_nil, RpAll]
  | _, [], _ :: _, _, _, h, _ => by simp only [RpAll] at h
  | _, _ :: _, [], _, _, h, _ => by simp only [RpAll] at h
  | 0, _ :: vs, _ :: ds, v, d, h, g => by
    simp only [RpAll] at h
    simp only [List.set_cons_zero, RpAll]
    exact ⟨g, h.2⟩
  | n + 1, _ :: vs, _ :: ds, v, d, h, g => by
    simp only [RpAll] at h
    simp only [List.set_cons_succ, RpAll]
    exact ⟨h.1, rpAll_set n h.2 g⟩
theorem rpAll_rev {H : Hp} : ∀ {vs : List V} {ds : List D}, RpAll K C H vs ds → RpAll K C H vs.reverse ds.reverse
  | [], [], _ => by simp only [List.reverse_nil, RpAll]
  | [], _ :: _, h => by simp only [RpAll] at h
  | _ :: _, [], h => by simp only [RpAll] at h
  | v :: vs, d :: ds, h => by
    simp only [RpAll] at h
    rw [List.reverse_cons, List.reverse_cons]
    exact rpAll_app (rpAll_rev h.2) (by simp only [RpAll]; exact ⟨h.1, True.intro⟩)
/-- a list of ints lies as its values -/
theorem rpAll_ints {H : Hp} : ∀ {vs : List V} {ns : List Int}, RpAll K C H vs (ns.map D.int) → vs = iV ns
  | [], [], _ => rfl
  | [], _ :: _, h => by simp only [List.map_cons, RpAll] at h
  | _ :: _, [], h => by simp only [List.map_nil, RpAll] at h
  | v :: vs, n :: ns, h => by
    simp only [List.map_cons, RpAll, Rp] at h
    obtain ⟨e, h⟩ := h
    subst e
    rw [rpAll_ints h]
    rfl
theorem rpAll_iV (H : Hp) : ∀ (ns : List Int), RpAll K C H (iV ns) (ns.map D.int)
  | [] => by simp only [iV, List.map_nil, RpAll]
  | n :: ns => by
    have := rpAll_iV H ns
    simp only [iV, List.map_cons, RpAll, Rp] at this ⊢
    exact ⟨True.intro, this⟩
theorem rpAll_bls {H : Hp} : ∀ {vs : List V} {bs : List Bool}, RpAll K C H vs (bs.map D.bl) → vs = bs.map V.bl
  | [], [], _ => rfl
  | [], _ :: _, h => by simp only [List.map_cons, RpAll] at h
  | _ :: _, [], h => by simp only [List.map_nil, RpAll] at h
  | v :: vs, n :: ns, h => by
    simp only [List.map_cons, RpAll, Rp] at h
    obtain ⟨e, h⟩ := h
    subst e
    rw [rpAll_bls h]
    rfl
/-! ### what is known (H) and what stands (A) -/
structure Nx (H0 A0 H A : Hp) : Prop where
  hh : Ex H0 H
  aa : Ex A0 A
  ha : Ex H A
  sep : ∀ a, H0 a = none → A0 a ≠ none → H a = none
theorem Nx.refl {H A : Hp} (h : Ex H A) : Nx H A H A := ⟨.refl _, .refl _, h, fun _ h _ => h⟩
theorem Nx.trans {H0 A0 H1 A1 H2 A2 : Hp} (a : Nx H0 A0 H1 A1) (b : Nx H1 A1 H2 A2) : Nx H0 A0 H2 A2 :=
  ⟨a.hh.trans b.hh, a.aa.trans b.aa, b.ha, fun x h g => b.sep x (a.sep x h g) fun z => g (a.aa.free z)⟩
theorem Nx.new {H A : Hp} (e : Ex H A) {p : Addr} {o : HO} (h : A p = none) : Nx H A (upd H p o) (upd A p o) :=
  ⟨.new (e.free h), .new h, e.both, fun a h1 h2 => by
    have : a ≠ p := fun z => h2 (by rw [z]; exact h)
    rw [upd_ne this]; exact h1⟩
/-- a new object that isn't known -/
theorem Nx.newA {H A : Hp} (e : Ex H A) {p : Addr} {o : HO} (h : A p = none) : Nx H A H (upd A p o) :=
  ⟨.refl _, .new h, e.trans (.new h), fun _ h1 _ => h1⟩
/-- the objects that a monitor's method may change -/
abbrev Mt := Addr → Prop
def M0 : Mt := fun _ => False
/-- what holds besides: kept by all that only makes objects -/
structure Fm where
  P : Hp → Hp → Prop
  st : ∀ {H A H' A' : Hp}, Nx H A H' A' → P H A → P H' A'
def F0 : Fm := ⟨fun _ _ => True, fun _ _ => True.intro⟩
/-- a slot: unknown, data, a list of one's own -/
inductive SD where
  | un | dat (d : D) | own (ds : List D)
def Sl1 (K : PySem.W.Frag) (C : Addr) (M : Mt) (A0 H A : Hp) : Option V → SD → Prop
  | _, .un => True
  | some v, .dat d => Rp K C H v d
  | some v, .own ds => ∃ p xs, v = .ref p ∧ H p = none ∧ A p = some (.lst xs) ∧ RpAll K C H xs ds ∧ A0 p = none ∧ ¬ M p
  | none, _ => False
structure Slots (K : PySem.W.Frag) (C : Addr) (M : Mt) (A0 H A : Hp) (σ : L2.St) (δ : List SD) : Prop where
  len : σ.length = δ.length
  at_ : ∀ (i : Nat) s, δ[i]? = some s → Sl1 K C M A0 H A ((σ[i]?).getD none) s
  apart : ∀ (i j : Nat) ds es p, i ≠ j → δ[i]? = some (.own ds) → δ[j]? = some (.own es) → σ[i]? = some (some (V.ref p)) → σ[j]? ≠ some (some (V.ref p))
structure StA (K : PySem.W.Frag) (C : Addr) (M : Mt) (F : Fm) (H0 A0 H A : Hp) (σ : L2.St) (δ : List SD) : Prop where
  hh : Ex H0 H
  aa : ∀ b o, A0 b = some o → ¬ M b → A b = some o
  at0 : ∀ b, A0 b ≠ none → A b ≠ none
  ha : Ex H A
  sep : ∀ a, H0 a = none → A0 a ≠ none → H a = none
  f : F.P H A
  sl : Slots K C M A0 H A σ δ
theorem Sl1.nx {M : Mt} {A0 H A H' A' : Hp} (n : Nx H A H' A') {o : Option V} {s : SD} (h : Sl1 K C M A0 H A o s) : Sl1 K C M A0 H' A' o s := by
  cases s with
  | un => cases o <;> exact True.intro
  | dat d =>
    cases o with
    | none => exact h
    | some v => exact rp_mono n.hh d v h
  | own ds =>
    cases o with
    | none => exact h
    | some v =>
      obtain ⟨p, xs, e, h1, h2, h3, h4, h5⟩ := h
      exact ⟨p, xs, e, n.sep p h1 (by rw [h2]; exact fun z => by cases z), n.aa _ _ h2, rpAll_mono n.hh ds xs h3, h4, h5⟩
theorem Slots.nx {M : Mt} {A0 H A H' A' : Hp} {σ : L2.St} {δ : List SD} (s : Slots K C M A0 H A σ δ) (n : Nx H A H' A') : Slots K C M A0 H' A' σ δ :=
  ⟨s.len, fun i t h => (s.at_ i t h).nx n, s.apart⟩
theorem StA.nx {M : Mt} {F : Fm} {H0 A0 H A H' A' : Hp} {σ : L2.St} {δ : List SD} (s : StA K C M F H0 A0 H A σ δ) (n : Nx H A H' A') : StA K C M F H0 A0 H' A' σ δ :=
  ⟨s.hh.trans n.hh, fun b o h g => n.aa _ _ (s.aa b o h g), fun b h z => s.at0 b h (n.aa.free z), n.ha, fun a h1 h2 => n.sep a (s.sep a h1 h2) (s.at0 a h2), F.st n s.f, s.sl.nx n⟩
theorem Slots.dat {M : Mt} {A0 H A : Hp} {σ : L2.St} {δ : List SD} (s : Slots K C M A0 H A σ δ) {i : Nat} {d : D} (h : δ[i]? = some (.dat d)) : ∃ v, σ[i]? = some (some v) ∧ Rp K C H v d := by
  have := s.at_ i _ h
  cases q : σ[i]? with
  | none => rw [q] at this; exact this.elim
  | some o =>
    rw [q] at this
    cases o with
    | none => exact this.elim
    | some v => exact ⟨v, rfl, this⟩
theorem Slots.own {M : Mt} {A0 H A : Hp} {σ : L2.St} {δ : List SD} (s : Slots K C M A0 H A σ δ) {i : Nat} {ds : List D} (h : δ[i]? = some (.own ds)) :
    ∃ p xs, σ[i]? = some (some (.ref p)) ∧ H p = none ∧ A p = some (.lst xs) ∧ RpAll K C H xs ds ∧ A0 p = none ∧ ¬ M p := by
  have := s.at_ i _ h
  cases q : σ[i]? with
  | none => rw [q] at this; exact this.elim
  | some o =>
    rw [q] at this
    cases o with
    | none => exact this.elim
    | some v =>
      obtain ⟨p, xs, e, r⟩ := this
      subst e
      exact ⟨p, xs, rfl, r⟩
theorem getD_set_self {σ : L2.St} {i : Nat} {o : Option V} (h : i < σ.length) : ((σ.set i o)[i]?).getD none = o := by
  rw [List.getElem?_set_self h]; rfl
/-- a slot takes data -/
theorem Slots.setD {M : Mt} {A0 H A : Hp} {σ : L2.St} {δ : List SD} (s : Slots K C M A0 H A σ δ) {i : Nat} {v : V} {d : D} (r : Rp K C H v d) : Slots K C M A0 H A (σ.set i (some v)) (δ.set i (.dat d)) := by
  refine ⟨by simp [s.len], fun j t h => ?_, fun j k ds es p hjk h1 h2 h3 => ?_⟩
  · by_cases e : i = j
    · subst e
      have hi : i < δ.length := by have := (List.getElem?_eq_some_iff.mp h).1; simpa using this
      rw [List.getElem?_set_self hi] at h
      cases h
      rw [getD_set_self (by rw [s.len]; exact hi)]
      exact r
    · rw [List.getElem?_set_ne e] at h ⊢
      exact s.at_ j t h
  · have ej : i ≠ j := fun e => by
      subst e
      by_cases hi : i < δ.length
      · rw [List.getElem?_set_self hi] at h1; cases h1
      · rw [List.getElem?_eq_none (by simp; omega)] at h1; cases h1
    have ek : i ≠ k := fun e => by
      subst e
      by_cases hi : i < δ.length
      · rw [List.getElem?_set_self hi] at h2; cases h2
      · rw [List.getElem?_eq_none (by simp; omega)] at h2; cases h2
    rw [List.getElem?_set_ne ej] at h1 h3
    rw [List.getElem?_set_ne ek] at h2 ⊢
    exact s.apart j k ds es p hjk h1 h2 h3
/-- a slot takes a new list -/
theorem Slots.setN {M : Mt} {A0 H A : Hp} {σ : L2.St} {δ : List SD} (s : Slots K C M A0 H A σ δ) {i : Nat} {p : Addr} {xs : List V} {ds : List D} (hp : H p = none) (ha : A p = some (.lst xs)) (h0 : A0 p = none) (hm : ¬ M p)
    (new : ∀ (j : Nat) (es : List D), δ[j]? = some (SD.own es) → σ[j]? ≠ some (some (V.ref p))) (r : RpAll K C H xs ds) : Slots K C M A0 H A (σ.set i (some (.ref p))) (δ.set i (.own ds)) := by
  refine ⟨by simp [s.len], fun j t h => ?_, fun j k ds' es q hjk h1 h2 h3 => ?_⟩
  · by_cases e : i = j
    · subst e
      have hi : i < δ.length := by have := (List.getElem?_eq_some_iff.mp h).1; simpa using this
      rw [List.getElem?_set_self hi] at h
      cases h
      rw [getD_set_self (by rw [s.len]; exact hi)]
      exact ⟨p, xs, rfl, hp, ha, r, h0, hm⟩
    · rw [List.getElem?_set_ne e] at h ⊢
      exact s.at_ j t h
  · by_cases ej : i = j
    · subst ej
      rw [List.getElem?_set_ne hjk] at h2 ⊢
      have hi : i < σ.length := by have := (List.getElem?_eq_some_iff.mp h3).1; simpa using this
      rw [List.getElem?_set_self hi] at h3
      have e : V.ref p = V.ref q := Option.some.inj (Option.some.inj h3)
      cases e
      exact new k es h2
    · rw [List.getElem?_set_ne ej] at h1 h3
      by_cases ek : i = k
      · subst ek
        have hi : i < σ.length := by
          have := (List.getElem?_eq_some_iff.mp h2).1
          rw [s.len]; simpa using this
        rw [List.getElem?_set_self hi]
        intro z
        have e : V.ref p = V.ref q := Option.some.inj (Option.some.inj z)
        cases e
        exact new j ds' h1 h3
      · rw [List.getElem?_set_ne ek] at h2 ⊢
        exact s.apart j k ds' es q hjk h1 h2 h3
end
end Sw
namespace Sw
open PySem PySem.Spec PyProof.Rows L2
theorem sz1000 {n : Nat} (h : Nat.ble n 1000 = true) : n ≤ sizeLine := Nat.le_trans (Nat.le_of_ble_eq_true h) (by decide)
theorem sz_le {n m : Nat} (h : n ≤ m) (g : Nat.ble m 1000000 = true) : n ≤ sizeLine := Nat.le_trans h (Nat.le_trans (Nat.le_of_ble_eq_true g) (by decide))
theorem sz_lt {n m : Nat} (h : n ≤ m) (g : Nat.ble m 1000000 = true) : n < sizeLine := Nat.lt_of_le_of_lt h (Nat.lt_of_le_of_lt (Nat.le_of_ble_eq_true g) (by decide))
/-! ### judgements of expressions -/
def teD (K : PySem.W.Frag) (C : Addr) (F : Fm) (δ : List SD) (d : D) : TE := fun σ A Q => ∃ M A0 H, Ex H A ∧ F.P H A ∧ Slots K C M A0 H A σ δ ∧ ∀ v H' A', Nx H A H' A' → Rp K C H' v d → Q v A'
def teN (K : PySem.W.Frag) (C : Addr) (F : Fm) (δ : List SD) (ds : List D) : TE := fun σ A Q => ∃ M A0 H, Ex H A ∧ F.P H A ∧ Slots K C M A0 H A σ δ ∧
  ∀ p xs H' A', Nx H A H' A' → A p = none → H' p = none → A' p = some (.lst xs) → RpAll K C H' xs ds → Q (.ref p) A'
def ttD (K : PySem.W.Frag) (C : Addr) (F : Fm) (δ : List SD) (b : Bool) : TT := fun σ A Q => ∃ M A0 H, Ex H A ∧ F.P H A ∧ Slots K C M A0 H A σ δ ∧ ∀ H' A', Nx H A H' A' → Q b A'
def taD (K : PySem.W.Frag) (C : Addr) (F : Fm) (δ : List SD) (ds : List D) : TA := fun σ A Q => ∃ M A0 H, Ex H A ∧ F.P H A ∧ Slots K C M A0 H A σ δ ∧ ∀ vs H' A', Nx H A H' A' → RpAll K C H' vs ds → Q vs A'
def toD (K : PySem.W.Frag) (C : Addr) (F : Fm) (δ : List SD) (o : Option Int) : TO := fun σ A Q => ∃ M A0 H, Ex H A ∧ F.P H A ∧ Slots K C M A0 H A σ δ ∧ ∀ H' A', Nx H A H' A' → Q o A'
def DE (C : Addr) (X : Cx) (e : Expr) (F : Fm) (δ : List SD) (d : D) : Prop := PE X e (teD X.K C F δ d)
def DN (C : Addr) (X : Cx) (e : Expr) (F : Fm) (δ : List SD) (ds : List D) : Prop := PE X e (teN X.K C F δ ds)
def DT (C : Addr) (X : Cx) (e : Expr) (F : Fm) (δ : List SD) (b : Bool) : Prop := PT X e (ttD X.K C F δ b)
def DW (C : Addr) (X : Cx) (e : Expr) (F : Fm) (δ : List SD) (b : Bool) : Prop := PW X e (ttD X.K C F δ b)
def DA (C : Addr) (X : Cx) (es : List Expr) (F : Fm) (δ : List SD) (ds : List D) : Prop := PA X es (taD X.K C F δ ds)
def DO (C : Addr) (X : Cx) (e : Option Expr) (F : Fm) (δ : List SD) (o : Option Int) : Prop := PO X e (toD X.K C F δ o)
theorem pe_imp {X : Cx} {e : Expr} {t t' : TE} (h : PE X e t) (i : ∀ σ A Q, t' σ A Q → t σ A Q) : PE X e t' := ⟨fun pins s σ H Q I q => h.run pins s σ H Q I (i σ H Q q)⟩
theorem pt_imp {X : Cx} {e : Expr} {t t' : TT} (h : PT X e t) (i : ∀ σ A Q, t' σ A Q → t σ A Q) : PT X e t' := ⟨fun pins s σ H Q I q => h.run pins s σ H Q I (i σ H Q q)⟩
theorem pw_imp {X : Cx} {e : Expr} {t t' : TT} (h : PW X e t) (i : ∀ σ A Q, t' σ A Q → t σ A Q) : PW X e t' := ⟨fun w pins s σ H Q I q => h.run w pins s σ H Q I (i σ H Q q)⟩
theorem pa_imp {X : Cx} {e : List Expr} {t t' : TA} (h : PA X e t) (i : ∀ σ A Q, t' σ A Q → t σ A Q) : PA X e t' := ⟨fun p pins s σ H Q I q => h.run p pins s σ H Q I (i σ H Q q)⟩
theorem po_imp {X : Cx} {e : Option Expr} {t t' : TO} (h : PO X e t) (i : ∀ σ A Q, t' σ A Q → t σ A Q) : PO X e t' := ⟨fun pins s σ H Q I q => h.run pins s σ H Q I (i σ H Q q)⟩
section
variable {C : Addr} {X : Cx} {F : Fm} {δ : List SD} {a b c e : Expr} {es : List Expr} {pos : Pos}
theorem de_int {i : Int} {j : Nat} : DE C X (.Constant (.int i) j pos) F δ (.int i) := pe_imp pe_int fun σ A Q ⟨M, A0, H, ha, f, s, q⟩ => q _ _ _ (.refl ha) (by simp only [Rp])
theorem de_bl {i : Bool} {j : Nat} : DE C X (.Constant (.bool i) j pos) F δ (.bl i) := pe_imp pe_bl fun σ A Q ⟨M, A0, H, ha, f, s, q⟩ => q _ _ _ (.refl ha) (by simp only [Rp])
theorem de_non {j : Nat} : DE C X (.Constant .none j pos) F δ .non := pe_imp pe_non fun σ A Q ⟨M, A0, H, ha, f, s, q⟩ => q _ _ _ (.refl ha) (by simp only [Rp])
theorem dv (i : Nat) {x : Str} {d : D} (h : δ[i]? = some (.dat d) := by rfl) (hN : X.N[i]? = some x := by rfl) (hv : Vis X.env.scope x := by first | exact Or.inl rfl | exact Or.inr (Or.inl rfl) | exact Or.inr (Or.inr rfl)) (hd : (x == ("__debug__" : Str)) = false := by decide)
    (hcd : (x == ("__classdict__" : Str)) = false := by decide) : DE C X (.Name x pos) F δ d :=
  pe_imp (pe_var hN hv hd hcd) fun σ A Q ⟨M, A0, H, ha, f, s, q⟩ => by
    obtain ⟨v, e1, r⟩ := s.dat h
    exact ⟨v, e1, q _ _ _ (.refl ha) r⟩
theorem de_glob {x : Str} {v : V} {u : Value} {d : D} (hg : Gl X x) (hm : X.mg x = some u) (r : RelV v u) (hr : ∀ H, Rp X.K C H v d) (hd : (x == ("__debug__" : Str)) = false := by decide) : DE C X (.Name x pos) F δ d :=
  pe_imp (pe_glob hg hm r hd) fun σ A Q ⟨M, A0, H, ha, f, s, q⟩ => q _ _ _ (.refl ha) (hr H)
/-- a module's int -/
def MgI (mg : Str → Option Value) (x : Str) (i : Int) : Prop := ∃ t, mg x = some (.int i t)
theorem dg {x : Str} {i : Int} (hm : MgI X.mg x i) (hg : Gl X x := by rfl) (hd : (x == ("__debug__" : Str)) = false := by decide) : DE C X (.Name x pos) F δ (.int i) := by
  obtain ⟨t, hm⟩ := hm
  exact de_glob hg hm (v := .int i) ⟨t, rfl⟩ (fun H => by simp only [Rp]) hd
theorem de_is {d d' : D} (h : DE C X e F δ d) (q : d = d') : DE C X e F δ d' := q ▸ h
theorem dn_is {d d' : List D} (h : DN C X e F δ d) (q : d = d') : DN C X e F δ d' := q ▸ h
theorem dt_is {d d' : Bool} (h : DT C X e F δ d) (q : d = d') : DT C X e F δ d' := q ▸ h
/-- two in a row -/
theorem seq2 {da db : D} {σ : L2.St} {A : Hp} {M : Mt} {A0 H : Hp} (ha : Ex H A) (f : F.P H A) (s : Slots X.K C M A0 H A σ δ) {R : V → V → Hp → Prop} (q : ∀ x y H2 A2, Nx H A H2 A2 → Rp X.K C H2 x da → Rp X.K C H2 y db → R x y A2) :
    teD X.K C F δ da σ A fun x A1 => teD X.K C F δ db σ A1 fun y A2 => R x y A2 :=
  ⟨M, A0, H, ha, f, s, fun x H1 A1 n1 r1 => ⟨M, A0, H1, n1.ha, F.st n1 f, s.nx n1, fun y H2 A2 n2 r2 => q x y H2 A2 (n1.trans n2) (rp_mono n2.hh _ _ r1) r2⟩⟩
theorem de_opI {op : Operator} {Cc : Int → Int → Prop} {g : Int → Int → Int} (ho : OpR X (binaryOp op) (rI Cc fun i j => .int (g i j))) {i j : Int} (ha : DE C X a F δ (.int i)) (hb : DE C X b F δ (.int j)) (hc : Cc i j) : DE C X (.BinOp a op b pos) F δ (.int (g i j)) :=
  pe_imp (pe_op ho ha hb) fun σ A Q ⟨M, A0, H, ea, f, s, q⟩ => seq2 ea f s fun x y H2 A2 n r1 r2 => by
    simp only [Rp] at r1 r2
    exact ⟨i, j, r1, r2, hc, q _ _ _ n (by simp only [Rp])⟩
theorem de_opI0 {op : Operator} {g : Int → Int → Int} (ho : OpR X (binaryOp op) (rI0 fun i j => .int (g i j))) {i j : Int} (ha : DE C X a F δ (.int i)) (hb : DE C X b F δ (.int j)) : DE C X (.BinOp a op b pos) F δ (.int (g i j)) :=
  pe_imp (pe_op ho ha hb) fun σ A Q ⟨M, A0, H, ea, f, s, q⟩ => seq2 ea f s fun x y H2 A2 n r1 r2 => by
    simp only [Rp] at r1 r2
    exact ⟨i, j, r1, r2, q _ _ _ n (by simp only [Rp])⟩
theorem de_add {i j : Int} (ha : DE C X a F δ (.int i)) (hb : DE C X b F δ (.int j)) : DE C X (.BinOp a .Add b pos) F δ (.int (i + j)) := de_opI0 op_add ha hb
theorem de_sub {i j : Int} (ha : DE C X a F δ (.int i)) (hb : DE C X b F δ (.int j)) : DE C X (.BinOp a .Sub b pos) F δ (.int (i - j)) := de_opI0 op_sub ha hb
theorem op_mulK : OpR X (binaryOp .Mult) (rI IntMulOk fun i j => .int (i * j)) := opI fun _ _ _ _ _ _ _ hc q => mul_int q hc
theorem de_mul {i j : Int} (ha : DE C X a F δ (.int i)) (hb : DE C X b F δ (.int j)) (h : IntMulOk i j) : DE C X (.BinOp a .Mult b pos) F δ (.int (i * j)) := de_opI op_mulK ha hb h
theorem de_mod {i j : Int} (ha : DE C X a F δ (.int i)) (hb : DE C X b F δ (.int j)) (h : 0 < j) : DE C X (.BinOp a .Mod b pos) F δ (.int (i % j)) := de_opI op_mod ha hb h
theorem de_fdiv {i j : Int} (ha : DE C X a F δ (.int i)) (hb : DE C X b F δ (.int j)) (h : CDivW i j) : DE C X (.BinOp a .FloorDiv b pos) F δ (.int (i / j)) := de_opI op_fdivW ha hb h
theorem de_neg {i : Int} (ha : DE C X a F δ (.int i)) : DE C X (.UnaryOp .USub a pos) F δ (.int (-i)) :=
  pe_imp (pe_un un_neg ha) fun σ A Q ⟨M, A0, H, ea, f, s, q⟩ => ⟨M, A0, H, ea, f, s, fun v H' A' n r => by
    simp only [Rp] at r
    exact ⟨i, r, q _ _ _ n (by simp only [Rp])⟩⟩
/-! comparisons -/
theorem de_cmpI {op : CmpOp} {p : Int → Int → Bool} (ho : OpR X (compareOp op) (rI0 fun i j => .bl (p i j))) (hm : behindInMarks op b = false) {i j : Int} (ha : DE C X a F δ (.int i)) (hb : DE C X b F δ (.int j)) : DE C X (.Compare a [op] [b] pos) F δ (.bl (p i j)) :=
  pe_imp (pe_cmpR ho ha hb hm) fun σ A Q ⟨M, A0, H, ea, f, s, q⟩ => seq2 ea f s fun x y H2 A2 n r1 r2 => by
    simp only [Rp] at r1 r2
    exact ⟨i, j, r1, r2, q _ _ _ n (by simp only [Rp])⟩
theorem dt_cmpI {op : CmpOp} {p : Int → Int → Bool} (ho : OpR X (compareOp op) (rI0 fun i j => .bl (p i j))) (hm : behindInMarks op b = false) {i j : Int} (ha : DE C X a F δ (.int i)) (hb : DE C X b F δ (.int j)) : DT C X (.Compare a [op] [b] pos) F δ (p i j) :=
  pt_imp (pt_cmpR ho ha hb hm) fun σ A Q ⟨M, A0, H, ea, f, s, q⟩ => seq2 ea f s fun x y H2 A2 n r1 r2 => by
    simp only [Rp] at r1 r2
    exact ⟨i, j, r1, r2, _, rfl, q _ _ n⟩
theorem op_eqI : OpR X (compareOp .Eq) (rI0 fun i j => .bl (decide (i = j))) := by
  intro pins s σ H x y v u Q I rx ry h
  obtain ⟨i, j, rfl, rfl, q⟩ := h
  exact op_eq pins s σ H _ _ v u Q I rx ry ⟨rfl, by
    have : decide (V.int i = V.int j) = decide (i = j) := by simp
    rw [this]; exact q⟩
theorem op_neI : OpR X (compareOp .NotEq) (rI0 fun i j => .bl (!decide (i = j))) := by
  intro pins s σ H x y v u Q I rx ry h
  obtain ⟨i, j, rfl, rfl, q⟩ := h
  exact op_ne pins s σ H _ _ v u Q I rx ry ⟨rfl, by
    have : decide (V.int i = V.int j) = decide (i = j) := by simp
    rw [this]; exact q⟩
theorem de_lt {i j : Int} (ha : DE C X a F δ (.int i)) (hb : DE C X b F δ (.int j)) : DE C X (.Compare a [.Lt] [b] pos) F δ (.bl (decide (i < j))) := de_cmpI op_lt (nomark _) ha hb
theorem de_le {i j : Int} (ha : DE C X a F δ (.int i)) (hb : DE C X b F δ (.int j)) : DE C X (.Compare a [.LtE] [b] pos) F δ (.bl (decide (i ≤ j))) := de_cmpI op_le (nomark _) ha hb
theorem de_gt {i j : Int} (ha : DE C X a F δ (.int i)) (hb : DE C X b F δ (.int j)) : DE C X (.Compare a [.Gt] [b] pos) F δ (.bl (decide (j < i))) := de_cmpI op_gt (nomark _) ha hb
theorem de_eq {i j : Int} (ha : DE C X a F δ (.int i)) (hb : DE C X b F δ (.int j)) : DE C X (.Compare a [.Eq] [b] pos) F δ (.bl (decide (i = j))) := de_cmpI op_eqI (nomark _) ha hb
theorem dt_lt {i j : Int} (ha : DE C X a F δ (.int i)) (hb : DE C X b F δ (.int j)) : DT C X (.Compare a [.Lt] [b] pos) F δ (decide (i < j)) := dt_cmpI (p := fun i j => decide (i < j)) op_lt (nomark _) ha hb
theorem dt_le {i j : Int} (ha : DE C X a F δ (.int i)) (hb : DE C X b F δ (.int j)) : DT C X (.Compare a [.LtE] [b] pos) F δ (decide (i ≤ j)) := dt_cmpI (p := fun i j => decide (i ≤ j)) op_le (nomark _) ha hb
theorem dt_gt {i j : Int} (ha : DE C X a F δ (.int i)) (hb : DE C X b F δ (.int j)) : DT C X (.Compare a [.Gt] [b] pos) F δ (decide (j < i)) := dt_cmpI (p := fun i j => decide (j < i)) op_gt (nomark _) ha hb
theorem dt_ge {i j : Int} (ha : DE C X a F δ (.int i)) (hb : DE C X b F δ (.int j)) : DT C X (.Compare a [.GtE] [b] pos) F δ (decide (j ≤ i)) := dt_cmpI (p := fun i j => decide (j ≤ i)) op_ge (nomark _) ha hb
theorem dt_eq {i j : Int} (ha : DE C X a F δ (.int i)) (hb : DE C X b F δ (.int j)) : DT C X (.Compare a [.Eq] [b] pos) F δ (decide (i = j)) := dt_cmpI (p := fun i j => decide (i = j)) op_eqI (nomark _) ha hb
theorem dt_ne {i j : Int} (ha : DE C X a F δ (.int i)) (hb : DE C X b F δ (.int j)) : DT C X (.Compare a [.NotEq] [b] pos) F δ (!decide (i = j)) := dt_cmpI (p := fun i j => !decide (i = j)) op_neI (nomark _) ha hb
/-- None or not -/
def isNon : D → Option Bool
  | .non => some true
  | .int _ => some false
  | .bl _ => some false
  | .lst _ => some false
  | .tup _ => some false
  | .ro _ => some false
  | .proc _ => some false
  | .raw v => some (decide (v = .non))
theorem isNon_v {K : PySem.W.Frag} {H : Hp} {v : V} {d : D} {k : Bool} (h : isNon d = some k) (r : Rp K C H v d) : decide (v = .non) = k := by
  cases d <;> simp only [Rp] at r <;> simp only [isNon, Option.some.injEq] at h
  case non => subst r; subst h; rfl
  case bl => subst r; subst h; rfl
  case int => subst r; subst h; rfl
  case raw => subst r; exact h
  all_goals
    obtain ⟨z, r⟩ := r
    first
      | (obtain ⟨_, e, _⟩ := r; subst e; subst h; rfl)
      | (obtain ⟨e, _⟩ := r; subst e; subst h; rfl)
theorem dt_isN {d : D} {k : Bool} {j : Nat} {p2 : Pos} (ha : DE C X a F δ d) (h : isNon d = some k := by rfl) : DT C X (.Compare a [.Is] [.Constant .none j p2] pos) F δ k :=
  pt_imp (pt_cmpR op_isN ha pe_non (nomark _)) fun σ A Q ⟨M, A0, H, ea, f, s, q⟩ => ⟨M, A0, H, ea, f, s, fun v H' A' n r => ⟨rfl, k, by rw [isNon_v h r], q _ _ n⟩⟩
theorem dt_notN {d : D} {k : Bool} {j : Nat} {p2 : Pos} (ha : DE C X a F δ d) (h : isNon d = some k := by rfl) : DT C X (.Compare a [.IsNot] [.Constant .none j p2] pos) F δ (!k) :=
  pt_imp (pt_cmpR op_notN ha pe_non (nomark _)) fun σ A Q ⟨M, A0, H, ea, f, s, q⟩ => ⟨M, A0, H, ea, f, s, fun v H' A' n r => ⟨rfl, !k, by rw [isNon_v h r], q _ _ n⟩⟩
/-- a truth value as a test -/
theorem dt_val {k : Bool} (h : DE C X e F δ (.bl k)) (he : ∀ whole, isTrue e X.env whole = (do let v ← whole; standAt e.pos; holding [v] (truthy v)) := by intro _; rfl) : DT C X e F δ k :=
  pt_imp (pt_val h he) fun σ A Q ⟨M, A0, H, ea, f, s, q⟩ => ⟨M, A0, H, ea, f, s, fun v H' A' n r => by
    simp only [Rp] at r
    exact ⟨k, r, q _ _ n⟩⟩
theorem dt_not {k : Bool} (h : DT C X a F δ k) : DT C X (.UnaryOp .Not a pos) F δ (!k) := pt_imp (pt_not h) fun σ A Q q => q
theorem dw_and {k l : Bool} {rest : List Expr} (ha : DT C X a F δ k) (hb : k = true → DW C X (.BoolOp .And (b :: rest) pos) F δ l) (hn : DW C X (.BoolOp .And (b :: rest) pos) F δ l ∨ True := .inr True.intro) : DW C X (.BoolOp .And (a :: b :: rest) pos) F δ (k && l) := by
  cases k with
  | true =>
    exact pw_imp (pw_and ha (hb rfl)) fun σ A Q ⟨M, A0, H, ea, f, s, q⟩ => ⟨M, A0, H, ea, f, s, fun H' A' n => ⟨M, A0, H', n.ha, F.st n f, s.nx n, fun H2 A2 n2 => q _ _ (n.trans n2)⟩⟩
  | false =>
    refine pw_imp (pw_and (tB' := fun _ _ _ => False) ha ⟨fun _ _ _ _ _ _ _ z => z.elim⟩) fun σ A Q ⟨M, A0, H, ea, f, s, q⟩ => ⟨M, A0, H, ea, f, s, fun H' A' n => q _ _ n⟩
theorem dw_or {k l : Bool} {rest : List Expr} (ha : DT C X a F δ k) (hb : k = false → DW C X (.BoolOp .Or (b :: rest) pos) F δ l) : DW C X (.BoolOp .Or (a :: b :: rest) pos) F δ (k || l) := by
  cases k with
  | false =>
    exact pw_imp (pw_or ha (hb rfl)) fun σ A Q ⟨M, A0, H, ea, f, s, q⟩ => ⟨M, A0, H, ea, f, s, fun H' A' n => ⟨M, A0, H', n.ha, F.st n f, s.nx n, fun H2 A2 n2 => q _ _ (n.trans n2)⟩⟩
  | true =>
    refine pw_imp (pw_or (tB' := fun _ _ _ => False) ha ⟨fun _ _ _ _ _ _ _ z => z.elim⟩) fun σ A Q ⟨M, A0, H, ea, f, s, q⟩ => ⟨M, A0, H, ea, f, s, fun H' A' n => q _ _ n⟩
theorem dw_and1 {k : Bool} (ha : DT C X a F δ k) : DW C X (.BoolOp .And [a] pos) F δ k := pw_and1 ha
theorem dw_or1 {k : Bool} (ha : DT C X a F δ k) : DW C X (.BoolOp .Or [a] pos) F δ k := pw_or1 ha
theorem dw_t {k : Bool} (h : DW C X e F δ k) : DT C X e F δ k := PW.pt h
/-- and, or as values of truth -/
theorem de_one {op : BoolOp} {d : D} (h : DE C X a F δ d) : DE C X (.BoolOp op [a] pos) F δ d := pe_one h
theorem de_and {k l : Bool} {rest : List Expr} (ha : DE C X a F δ (.bl k)) (hb : k = true → DE C X (.BoolOp .And (b :: rest) pos) F δ (.bl l)) : DE C X (.BoolOp .And (a :: b :: rest) pos) F δ (.bl (k && l)) := by
  cases k with
  | true =>
    exact pe_imp (pe_and ha (hb rfl)) fun σ A Q ⟨M, A0, H, ea, f, s, q⟩ => ⟨M, A0, H, ea, f, s, fun v H' A' n r => ⟨true, by simpa only [Rp] using r, M, A0, H', n.ha, F.st n f, s.nx n, fun v2 H2 A2 n2 r2 => q _ _ _ (n.trans n2) r2⟩⟩
  | false =>
    exact pe_imp (pe_and (tb := fun _ _ _ => False) ha ⟨fun _ _ _ _ _ _ z => z.elim⟩) fun σ A Q ⟨M, A0, H, ea, f, s, q⟩ => ⟨M, A0, H, ea, f, s, fun v H' A' n r => ⟨false, by simpa only [Rp] using r, q _ _ _ n (by simp only [Rp, Bool.false_and])⟩⟩
theorem de_or {k l : Bool} {rest : List Expr} (ha : DE C X a F δ (.bl k)) (hb : k = false → DE C X (.BoolOp .Or (b :: rest) pos) F δ (.bl l)) : DE C X (.BoolOp .Or (a :: b :: rest) pos) F δ (.bl (k || l)) := by
  cases k with
  | false =>
    exact pe_imp (pe_or ha (hb rfl)) fun σ A Q ⟨M, A0, H, ea, f, s, q⟩ => ⟨M, A0, H, ea, f, s, fun v H' A' n r => ⟨false, by simpa only [Rp] using r, M, A0, H', n.ha, F.st n f, s.nx n, fun v2 H2 A2 n2 r2 => q _ _ _ (n.trans n2) r2⟩⟩
  | true =>
    exact pe_imp (pe_or (tb := fun _ _ _ => False) ha ⟨fun _ _ _ _ _ _ z => z.elim⟩) fun σ A Q ⟨M, A0, H, ea, f, s, q⟩ => ⟨M, A0, H, ea, f, s, fun v H' A' n r => ⟨true, by simpa only [Rp] using r, q _ _ _ n (by simp only [Rp, Bool.true_or])⟩⟩
theorem de_ife {k : Bool} {d : D} (hc : DT C X c F δ k) (ha : k = true → DE C X a F δ d) (hb : k = false → DE C X b F δ d) : DE C X (.IfExp c a b pos) F δ d := by
  cases k with
  | true =>
    exact pe_imp (pe_ifExp (tb := fun _ _ _ => False) hc (ha rfl) ⟨fun _ _ _ _ _ _ z => z.elim⟩) fun σ A Q ⟨M, A0, H, ea, f, s, q⟩ => ⟨M, A0, H, ea, f, s, fun H' A' n => ⟨M, A0, H', n.ha, F.st n f, s.nx n, fun v2 H2 A2 n2 r2 => q _ _ _ (n.trans n2) r2⟩⟩
  | false =>
    exact pe_imp (pe_ifExp (ta := fun _ _ _ => False) hc ⟨fun _ _ _ _ _ _ z => z.elim⟩ (hb rfl)) fun σ A Q ⟨M, A0, H, ea, f, s, q⟩ => ⟨M, A0, H, ea, f, s, fun H' A' n => ⟨M, A0, H', n.ha, F.st n f, s.nx n, fun v2 H2 A2 n2 r2 => q _ _ _ (n.trans n2) r2⟩⟩
/-! lists and tuples -/
theorem de_of {ds : List D} (h : DN C X e F δ ds) : DE C X e F δ (.lst ds) :=
  pe_imp h fun σ A Q ⟨M, A0, H, ea, f, s, q⟩ => ⟨M, A0, H, ea, f, s, fun p xs H' A' n h1 h2 h3 r => q _ (upd H' p (.lst xs)) A' ⟨n.hh.trans (.new h2), n.aa, fun b o z => by
      by_cases hb : b = p
      · subst hb; rw [upd_same] at z; cases z; exact h3
      · rw [upd_ne hb] at z; exact n.ha b o z, fun b z1 z2 => by
      have : b ≠ p := fun e => z2 (by rw [e]; exact h1)
      rw [upd_ne this]; exact n.sep b z1 z2⟩ (by simp only [Rp]; exact ⟨p, xs, rfl, upd_same, rpAll_mono (.new h2) ds xs r⟩)⟩
theorem da_nil : DA C X [] F δ [] := pa_imp pa_nil fun σ A Q ⟨M, A0, H, ea, f, s, q⟩ => q _ _ _ (.refl ea) (by simp only [RpAll])
theorem da_cons {d : D} {ds : List D} (ha : DE C X e F δ d) (hr : DA C X es F δ ds) (hs : starEach (e :: es) X.env = (false, eval e X.env) :: starEach es X.env := by rfl) : DA C X (e :: es) F δ (d :: ds) :=
  pa_imp (pa_cons ha hr hs) fun σ A Q ⟨M, A0, H, ea, f, s, q⟩ => ⟨M, A0, H, ea, f, s, fun v H' A' n r => ⟨M, A0, H', n.ha, F.st n f, s.nx n, fun vs H2 A2 n2 r2 => q _ _ _ (n.trans n2) (by simp only [RpAll]; exact ⟨rp_mono n2.hh _ _ r, r2⟩)⟩⟩
theorem de_tup {ds : List D} {x1} (h : DA C X es F δ ds) (hl : ds.length ≤ sizeLine := by exact sz1000 rfl) : DE C X (.Tuple es x1 pos) F δ (.tup ds) :=
  pe_imp (pe_tup h) fun σ A Q ⟨M, A0, H, ea, f, s, q⟩ => ⟨M, A0, H, ea, f, s, fun vs H' A' n r => ⟨by rw [rpAll_len r]; exact hl, fun p hp => q _ _ _ (n.trans (.new n.ha hp)) (by
    simp only [Rp]; exact ⟨p, vs, rfl, SqT.of upd_same, rpAll_mono (.new (n.ha.free hp)) ds vs r⟩)⟩⟩
theorem dn_lst {ds : List D} (h : DA C X es F δ ds) (hl : ds.length ≤ sizeLine := by exact sz1000 rfl) : DN C X (.List es pos) F δ ds :=
  pe_imp (pe_lst h) fun σ A Q ⟨M, A0, H, ea, f, s, q⟩ => ⟨M, A0, H, ea, f, s, fun vs H' A' n r => ⟨by rw [rpAll_len r]; exact hl, fun p hp => q p vs H' _ (n.trans (.newA n.ha hp)) (n.aa.free hp) (n.ha.free hp) upd_same r⟩⟩
/-- items -/
theorem ixN_at {α β : Type} {xs : List α} {ys : List β} (h : xs.length = ys.length) {k : Int} {y : β} (e : atI ys k = some y) : ∃ j, ixN xs.length k = some j ∧ ys[j]? = some y := by
  unfold atI at e
  cases q : ixN ys.length k with
  | none => rw [q] at e; cases e
  | some j => rw [q] at e; exact ⟨j, by rw [h]; exact q, e⟩
theorem atI_v {K : PySem.W.Frag} {H : Hp} {xs : List V} {ds : List D} {k : Int} {d : D} (r : RpAll K C H xs ds) (e : atI ds k = some d) : ∃ v, atI xs k = some v ∧ Rp K C H v d := by
  obtain ⟨j, h1, h2⟩ := ixN_at (rpAll_len r) e
  obtain ⟨v, h3, h4⟩ := rpAll_get r h2
  refine ⟨v, ?_, h4⟩
  unfold atI
  rw [h1]
  exact h3
theorem de_ixL {ds : List D} {k : Int} {d : D} (ha : DE C X a F δ (.lst ds)) (hb : DE C X b F δ (.int k)) (he : atI ds k = some d) (hs : PlainIx b := by intro _ _; rfl) : DE C X (.Subscript a b pos) F δ d :=
  pe_imp (pe_ix ix_list ha hb hs) fun σ A Q ⟨M, A0, H, ea, f, s, q⟩ => seq2 ea f s fun x y H2 A2 n r1 r2 => by
    simp only [Rp] at r1 r2
    obtain ⟨p, xs, e1, e2, e3⟩ := r1
    obtain ⟨v, e4, e5⟩ := atI_v e3 he
    exact ⟨p, xs, k, v, e1, r2, SqL.of (n.ha _ _ e2), e4, q _ _ _ n e5⟩
theorem de_ixR {ds : List D} {k : Int} {d : D} (ha : DE C X a F δ (.ro ds)) (hb : DE C X b F δ (.int k)) (he : atI ds k = some d) (hs : PlainIx b := by intro _ _; rfl) : DE C X (.Subscript a b pos) F δ d :=
  pe_imp (pe_ix ix_list ha hb hs) fun σ A Q ⟨M, A0, H, ea, f, s, q⟩ => seq2 ea f s fun x y H2 A2 n r1 r2 => by
    simp only [Rp] at r1 r2
    obtain ⟨p, xs, e1, e2, e3⟩ := r1
    obtain ⟨v, e4, e5⟩ := atI_v e3 he
    exact ⟨p, xs, k, v, e1, r2, sql_mono n.ha e2, e4, q _ _ _ n e5⟩
theorem de_ixT {ds : List D} {k : Int} {d : D} (ha : DE C X a F δ (.tup ds)) (hb : DE C X b F δ (.int k)) (he : atI ds k = some d := by rfl) (hs : PlainIx b := by intro _ _; rfl) : DE C X (.Subscript a b pos) F δ d :=
  pe_imp (pe_ix ix_tup ha hb hs) fun σ A Q ⟨M, A0, H, ea, f, s, q⟩ => seq2 ea f s fun x y H2 A2 n r1 r2 => by
    simp only [Rp] at r1 r2
    obtain ⟨p, xs, e1, e2, e3⟩ := r1
    obtain ⟨v, e4, e5⟩ := atI_v e3 he
    exact ⟨p, xs, k, v, e1, r2, sqt_mono n.ha e2, e4, q _ _ _ n e5⟩
/-- slices -/
def cutD (ds : List D) (lo hi : Option Int) : List D := (ds.drop (HT.sIx ds.length 0 lo)).take (HT.sIx ds.length ds.length hi - HT.sIx ds.length 0 lo)
theorem cut_rp {K : PySem.W.Frag} {H : Hp} {xs : List V} {ds : List D} (lo hi : Option Int) (r : RpAll K C H xs ds) : RpAll K C H (cutV xs lo hi) (cutD ds lo hi) := by
  unfold cutV cutD
  rw [rpAll_len r]
  exact rpAll_take _ (rpAll_drop _ r)
theorem do_none : DO C X none F δ none := po_imp po_none fun σ A Q ⟨M, A0, H, ea, f, s, q⟩ => q _ _ (.refl ea)
theorem do_some {i : Int} (h : DE C X e F δ (.int i)) : DO C X (some e) F δ (some i) := po_imp (po_some h) fun σ A Q ⟨M, A0, H, ea, f, s, q⟩ => ⟨M, A0, H, ea, f, s, fun v H' A' n r => ⟨i, by simpa only [Rp] using r, q _ _ n⟩⟩
theorem dn_slL {ds : List D} {lo hi : Option Expr} {l u : Option Int} {p2 : Pos} (h : DE C X e F δ (.lst ds)) (hl : DO C X lo F δ l) (hu : DO C X hi F δ u) : DN C X (.Subscript e (.Slice lo hi none p2) pos) F δ (cutD ds l u) :=
  pe_imp (pe_slice sl_list h hl hu) fun σ A Q ⟨M, A0, H, ea, f, s, q⟩ => ⟨M, A0, H, ea, f, s, fun v H1 A1 n1 r => ⟨M, A0, H1, n1.ha, F.st n1 f, s.nx n1, fun H2 A2 n2 => ⟨M, A0, H2, n2.ha, F.st n2 (F.st n1 f), (s.nx n1).nx n2, fun H3 A3 n3 => by
    simp only [Rp] at r
    obtain ⟨p, xs, e1, e2, e3⟩ := r
    have n := (n1.trans n2).trans n3
    exact ⟨p, xs, e1, SqL.of (n3.aa _ _ (n2.aa _ _ (n1.ha _ _ e2))), fun t ht => q t _ H3 _ (n.trans (.newA n.ha ht)) (n.aa.free ht) (n.ha.free ht) upd_same (cut_rp l u (rpAll_mono (n2.hh.trans n3.hh) ds xs e3))⟩⟩⟩⟩
theorem dn_slR {ds : List D} {lo hi : Option Expr} {l u : Option Int} {p2 : Pos} (h : DE C X e F δ (.ro ds)) (hl : DO C X lo F δ l) (hu : DO C X hi F δ u) : DN C X (.Subscript e (.Slice lo hi none p2) pos) F δ (cutD ds l u) :=
  pe_imp (pe_slice sl_list h hl hu) fun σ A Q ⟨M, A0, H, ea, f, s, q⟩ => ⟨M, A0, H, ea, f, s, fun v H1 A1 n1 r => ⟨M, A0, H1, n1.ha, F.st n1 f, s.nx n1, fun H2 A2 n2 => ⟨M, A0, H2, n2.ha, F.st n2 (F.st n1 f), (s.nx n1).nx n2, fun H3 A3 n3 => by
    simp only [Rp] at r
    obtain ⟨p, xs, e1, e2, e3⟩ := r
    have n := (n1.trans n2).trans n3
    exact ⟨p, xs, e1, sql_mono (n1.ha.trans (n2.aa.trans n3.aa)) e2, fun t ht => q t _ H3 _ (n.trans (.newA n.ha ht)) (n.aa.free ht) (n.ha.free ht) upd_same (cut_rp l u (rpAll_mono (n2.hh.trans n3.hh) ds xs e3))⟩⟩⟩⟩
theorem dn_rev {ds : List D} {k : Nat} {p1 p2 p3 : Pos} (h : DE C X e F δ (.lst ds)) : DN C X (.Subscript e (.Slice none none (some (.UnaryOp .USub (.Constant (.int 1) k p1) p2)) p3) pos) F δ ds.reverse :=
  pe_imp (pe_revL h) fun σ A Q ⟨M, A0, H, ea, f, s, q⟩ => ⟨M, A0, H, ea, f, s, fun v H1 A1 n r => by
    simp only [Rp] at r
    obtain ⟨p, xs, e1, e2, e3⟩ := r
    exact ⟨p, xs, e1, SqL.of (n.ha _ _ e2), fun t ht => q t _ H1 _ (n.trans (.newA n.ha ht)) (n.aa.free ht) (n.ha.free ht) upd_same (rpAll_rev e3)⟩⟩
theorem dn_cat {ds gs : List D} (ha : DE C X a F δ (.lst ds)) (hb : DE C X b F δ (.lst gs)) (hl : ds.length + gs.length ≤ sizeLine) : DN C X (.BinOp a .Add b pos) F δ (ds ++ gs) :=
  pe_imp (pe_op op_cat ha hb) fun σ A Q ⟨M, A0, H, ea, f, s, q⟩ => seq2 ea f s fun x y H2 A2 n r1 r2 => by
    simp only [Rp] at r1 r2
    obtain ⟨p, xs, e1, e2, e3⟩ := r1
    obtain ⟨p', xs', e1', e2', e3'⟩ := r2
    exact ⟨p, p', xs, xs', e1, e1', n.ha _ _ e2, n.ha _ _ e2', by rw [rpAll_len e3, rpAll_len e3']; exact hl, fun t ht => q t _ H2 _ (n.trans (.newA n.ha ht)) (n.aa.free ht) (n.ha.free ht) upd_same (rpAll_app e3 e3')⟩
theorem rep_rp {K : PySem.W.Frag} {H : Hp} {xs : List V} {ds : List D} (r : RpAll K C H xs ds) : ∀ k : Nat, RpAll K C H (List.replicate k xs).flatten (List.replicate k ds).flatten
  | 0 => by simp [RpAll]
  | k + 1 => by
    simp only [List.replicate_succ, List.flatten_cons]
    exact rpAll_app r (rep_rp r k)
theorem dn_rep {ds : List D} {k : Int} (ha : DE C X a F δ (.lst ds)) (hb : DE C X b F δ (.int k)) (h1 : -(2 ^ 63) ≤ k) (h2 : k < 2 ^ 63) (hl : ds.length * k.toNat ≤ sizeLine) : DN C X (.BinOp a .Mult b pos) F δ (List.replicate k.toNat ds).flatten :=
  pe_imp (pe_op op_rep ha hb) fun σ A Q ⟨M, A0, H, ea, f, s, q⟩ => seq2 ea f s fun x y H2 A2 n r1 r2 => by
    simp only [Rp] at r1 r2
    obtain ⟨p, xs, e1, e2, e3⟩ := r1
    exact ⟨p, k, xs, e1, r2, n.ha _ _ e2, h1, h2, by rw [rpAll_len e3]; exact hl, fun t ht => q t _ H2 _ (n.trans (.newA n.ha ht)) (n.aa.free ht) (n.ha.free ht) upd_same (rep_rp e3 _)⟩
/-! built-ins -/
def seqD : D → Option (List D)
  | .lst ds => some ds
  | .ro ds => some ds
  | .tup ds => some ds
  | _ => none
theorem seq_v {K : PySem.W.Frag} {H A : Hp} (n : Ex H A) {v : V} {d : D} {ds : List D} (h : seqD d = some ds) (r : Rp K C H v d) : ∃ p xs, v = .ref p ∧ (SqL K A p xs ∨ SqT K A p xs) ∧ RpAll K C H xs ds := by
  cases d <;> simp only [seqD, Option.some.injEq, reduceCtorEq] at h <;> simp only [Rp] at r
  all_goals subst h
  all_goals obtain ⟨p, xs, e1, e2, e3⟩ := r
  · exact ⟨p, xs, e1, .inl (SqL.of (n _ _ e2)), e3⟩
  · exact ⟨p, xs, e1, .inl (sql_mono n e2), e3⟩
  · exact ⟨p, xs, e1, .inr (sqt_mono n e2), e3⟩
/-- no name of the module -/
abbrev MgN (mg : Str → Option Value) (x : Str) : Prop := mg x = none
theorem de_len {d : D} {ds : List D} {p pos : Pos} (hm : MgN X.mg "len") (h : DE C X e F δ d) (hd : seqD d = some ds := by rfl) (hg : Gl X "len" := by rfl) (hs : starEach (e :: []) X.env = (false, eval e X.env) :: starEach [] X.env := by rfl) : DE C X (.Call (.Name "len" p) [e] [] pos) F δ (.int ds.length) :=
  pe_imp (pe_callB call_len_seq hg hm PySem.boot_len (da_cons h da_nil hs) (he := hs)) fun σ A Q ⟨M, A0, H, ea, f, s, q⟩ => ⟨M, A0, H, ea, f, s, fun vs H' A' n r => by
    match vs, r with
    | [v], r =>
      simp only [RpAll] at r
      obtain ⟨p, xs, e1, e2, e3⟩ := seq_v n.ha hd r.1
      exact ⟨p, xs, by rw [e1], e2, by rw [rpAll_len e3]; exact q _ _ _ n (by simp only [Rp])⟩
    | [], r => simp only [RpAll] at r
    | _ :: _ :: _, r => simp only [RpAll] at r; exact r.2.elim⟩
theorem de_abs {i : Int} {p pos : Pos} (hm : MgN X.mg "abs") (h : DE C X e F δ (.int i)) (hg : Gl X "abs" := by rfl) (hs : starEach (e :: []) X.env = (false, eval e X.env) :: starEach [] X.env := by rfl) : DE C X (.Call (.Name "abs" p) [e] [] pos) F δ (.int (i.natAbs : Nat)) :=
  pe_imp (pe_callB call_abs hg hm (by decide +kernel) (da_cons h da_nil hs) (he := hs)) fun σ A Q ⟨M, A0, H, ea, f, s, q⟩ => ⟨M, A0, H, ea, f, s, fun vs H' A' n r => by
    match vs, r with
    | [v], r =>
      simp only [RpAll, Rp] at r
      refine ⟨i, by rw [r.1], q _ _ _ n ?_⟩
      simp only [Rp]
      congr 1
      split <;> omega
    | [], r => simp only [RpAll] at r
    | _ :: _ :: _, r => simp only [RpAll] at r; exact r.2.elim⟩
theorem de_intb {k : Bool} {p pos : Pos} (hm : MgN X.mg "int") (h : DE C X e F δ (.bl k)) (hg : Gl X "int" := by rfl) (hs : starEach (e :: []) X.env = (false, eval e X.env) :: starEach [] X.env := by rfl) : DE C X (.Call (.Name "int" p) [e] [] pos) F δ (.int (if k = true then 1 else 0)) :=
  pe_imp (pe_callTy call_int1 hg hm (by decide +kernel) (da_cons h da_nil hs) (he := hs)) fun σ A Q ⟨M, A0, H, ea, f, s, q⟩ => ⟨M, A0, H, ea, f, s, fun vs H' A' n r => by
    match vs, r with
    | [v], r =>
      simp only [RpAll, Rp] at r
      exact .inr ⟨k, by rw [r.1], q _ _ _ n (by simp only [Rp])⟩
    | [], r => simp only [RpAll] at r
    | _ :: _ :: _, r => simp only [RpAll] at r; exact r.2.elim⟩
theorem de_sum {ns : List Int} {p pos : Pos} (hm : MgN X.mg "sum") (h : DE C X e F δ (intD ns)) (hc : X.calm = true := by rfl) (hg : Gl X "sum" := by rfl) (hs : starEach (e :: []) X.env = (false, eval e X.env) :: starEach [] X.env := by rfl) : DE C X (.Call (.Name "sum" p) [e] [] pos) F δ (.int ns.sum) :=
  pe_imp (pe_callB (cr_sum hc) hg hm (by decide +kernel) (da_cons h da_nil hs) (he := hs)) fun σ A Q ⟨M, A0, H, ea, f, s, q⟩ => ⟨M, A0, H, ea, f, s, fun vs H' A' n r => by
    match vs, r with
    | [v], r =>
      simp only [RpAll, intD, Rp] at r
      obtain ⟨⟨p, xs, e1, e2, e3⟩, _⟩ := r
      rw [rpAll_ints e3] at e2
      exact ⟨p, ns, by rw [e1], SqL.of (n.ha _ _ e2), q _ _ _ n (by simp only [Rp])⟩
    | [], r => simp only [RpAll] at r
    | _ :: _ :: _, r => simp only [RpAll] at r; exact r.2.elim⟩
theorem de_max {ns : List Int} {m : Int} {p pos : Pos} (hm : MgN X.mg "max") (h : DE C X e F δ (intD ns)) (h0 : m ∈ ns) (hx : ∀ y ∈ ns, y ≤ m) (hc : X.calm = true := by rfl) (hg : Gl X "max" := by rfl) (hs : starEach (e :: []) X.env = (false, eval e X.env) :: starEach [] X.env := by rfl) : DE C X (.Call (.Name "max" p) [e] [] pos) F δ (.int m) :=
  pe_imp (pe_callB (cr_max hc) hg hm (by decide +kernel) (da_cons h da_nil hs) (he := hs)) fun σ A Q ⟨M, A0, H, ea, f, s, q⟩ => ⟨M, A0, H, ea, f, s, fun vs H' A' n r => by
    match vs, r with
    | [v], r =>
      simp only [RpAll, intD, Rp] at r
      obtain ⟨⟨p, xs, e1, e2, e3⟩, _⟩ := r
      rw [rpAll_ints e3] at e2
      refine ⟨p, ns, by rw [e1], SqL.of (n.ha _ _ e2), List.length_pos_of_mem h0, fun m' hm' hle => ?_⟩
      have : m' = m := Int.le_antisymm (hx m' hm') (hle m h0)
      subst this
      exact q _ _ _ n (by simp only [Rp])
    | [], r => simp only [RpAll] at r
    | _ :: _ :: _, r => simp only [RpAll] at r; exact r.2.elim⟩
theorem de_all {bs : List Bool} {p pos : Pos} (hm : MgN X.mg "all") (h : DE C X e F δ (.lst (bs.map D.bl))) (hc : X.calm = true := by rfl) (hg : Gl X "all" := by rfl) (hs : starEach (e :: []) X.env = (false, eval e X.env) :: starEach [] X.env := by rfl) : DE C X (.Call (.Name "all" p) [e] [] pos) F δ (.bl (bs.all id)) :=
  pe_imp (pe_callB (cr_all hc) hg hm (by decide +kernel) (da_cons h da_nil hs) (he := hs)) fun σ A Q ⟨M, A0, H, ea, f, s, q⟩ => ⟨M, A0, H, ea, f, s, fun vs H' A' n r => by
    match vs, r with
    | [v], r =>
      simp only [RpAll, Rp] at r
      obtain ⟨⟨p, xs, e1, e2, e3⟩, _⟩ := r
      rw [rpAll_bls e3] at e2
      exact ⟨p, bs, by rw [e1], SqL.of (n.ha _ _ e2), q _ _ _ n (by simp only [Rp])⟩
    | [], r => simp only [RpAll] at r
    | _ :: _ :: _, r => simp only [RpAll] at r; exact r.2.elim⟩
theorem dn_list {d : D} {ds : List D} {p pos : Pos} (hm : MgN X.mg "list") (h : DE C X e F δ d) (hd : seqD d = some ds := by rfl) (hg : Gl X "list" := by rfl) (hs : starEach (e :: []) X.env = (false, eval e X.env) :: starEach [] X.env := by rfl) : DN C X (.Call (.Name "list" p) [e] [] pos) F δ ds :=
  pe_imp (pe_callTy call_list_of hg hm (by decide +kernel) (da_cons h da_nil hs) (he := hs)) fun σ A Q ⟨M, A0, H, ea, f, s, q⟩ => ⟨M, A0, H, ea, f, s, fun vs H' A' n r => by
    match vs, r with
    | [v], r =>
      simp only [RpAll] at r
      obtain ⟨p, xs, e1, e2, e3⟩ := seq_v n.ha hd r.1
      exact ⟨p, xs, by rw [e1], e2, fun t ht => q t _ H' _ (n.trans (.newA n.ha ht)) (n.aa.free ht) (n.ha.free ht) upd_same e3⟩
    | [], r => simp only [RpAll] at r
    | _ :: _ :: _, r => simp only [RpAll] at r; exact r.2.elim⟩
end
end Sw
namespace Sw
open PySem PySem.Spec PyProof.Rows L2
/-! ### pure defs -/
def spD (K : PySem.W.Frag) (C : Addr) (R : List D → D → Prop) : Sp := fun vs A Q _ => ∃ H ds d, Ex H A ∧ RpAll K C H vs ds ∧ R ds d ∧ ∀ v H' A', Nx H A H' A' → Rp K C H' v d → Q v A'
/-- a def by its name -/
def Cal (P : Program) (w : World) (K : PySem.W.Frag) (mg : Str → Option Value) (base : Heap) (k : Nat) (x : Str) (sp : Sp) : Prop :=
  ∃ f fd ps, FnOk P w K mg base CX0 k f fd ps sp ∧ mg x = some (.ref f) ∧ PySem.W.keepIn K (.ref f) = true ∧ Binds K fd ps []
/-- a method by its class and name -/
def MetC (P : Program) (w : World) (K : PySem.W.Frag) (mg : Str → Option Value) (base : Heap) (k : Nat) (C : Addr) (m : Str) (sp : Sp) : Prop :=
  ∃ f fd ps, FnOk P w K mg base CX0 k f fd ps sp ∧ Meth K C m f ∧ Binds K fd ps []
theorem lk_here {k : Str} {v : V} {r : List (Str × V)} : List.lookup k ((k, v) :: r) = some v := by
  have e : (k == k) = true := beq_self_eq_true k
  simp only [List.lookup, e]
theorem lk_past {k g : Str} {v : V} {r : List (Str × V)} (h : (k == g) = false) : List.lookup k ((g, v) :: r) = List.lookup k r := by
  simp only [List.lookup, h]
/-- not a field of a process -/
def NoF (m : Str) : Prop := ((m == ("states" : Str)) || (m == ("actions" : Str)) || (m == ("top" : Str)) || (m == ("bottom" : Str)) || (m == ("tables" : Str)) || (m == ("weights" : Str))) = false
theorem NoF.lookup {m : Str} (h : NoF m) (p : Kp389.Process) (tb wb : Addr) : (pF p tb wb).lookup m = none := by
  unfold NoF at h
  simp only [Bool.or_eq_false_iff] at h
  obtain ⟨⟨⟨⟨⟨h1, h2⟩, h3⟩, h4⟩, h5⟩, h6⟩ := h
  unfold pF
  rw [lk_past h1, lk_past h2, lk_past h3, lk_past h4, lk_past h5, lk_past h6]
  rfl
/-- a field of a process and what it holds -/
def PFld (K : PySem.W.Frag) (C : Addr) (f : Str) (sel : Kp389.Process → D) : Prop := ∀ (H : Hp) (a : Addr) (p : Kp389.Process), ProcAt C H a p → ∃ dx fs v, H a = some (.ins C dx fs) ∧ fs.lookup f = some v ∧ Rp K C H v (sel p)
section
variable {K : PySem.W.Frag} {C : Addr}
theorem pf_states : PFld K C "states" fun p => .int p.stateCount := fun H a p h => by
  obtain ⟨dx, tb, t0, t1, wb, ws, h1, _⟩ := h.ex
  exact ⟨dx, _, _, h1, lk_here, by simp only [Rp]⟩
theorem pf_actions : PFld K C "actions" fun p => .int p.actionCount := fun H a p h => by
  obtain ⟨dx, tb, t0, t1, wb, ws, h1, _⟩ := h.ex
  exact ⟨dx, _, _, h1, (lk_past (by decide +kernel)).trans lk_here, by simp only [Rp]⟩
theorem pf_top : PFld K C "top" fun p => .int p.discountNum := fun H a p h => by
  obtain ⟨dx, tb, t0, t1, wb, ws, h1, _⟩ := h.ex
  exact ⟨dx, _, _, h1, (lk_past (by decide +kernel)).trans ((lk_past (by decide +kernel)).trans lk_here), by simp only [Rp]⟩
theorem pf_bottom : PFld K C "bottom" fun p => .int p.discountDen := fun H a p h => by
  obtain ⟨dx, tb, t0, t1, wb, ws, h1, _⟩ := h.ex
  exact ⟨dx, _, _, h1, (lk_past (by decide +kernel)).trans ((lk_past (by decide +kernel)).trans ((lk_past (by decide +kernel)).trans lk_here)), by simp only [Rp]⟩
theorem rows_rp {H : Hp} : ∀ {ws : List Addr} {rs : List (List Int)}, RowsAt H ws rs → RpAll K C H (ws.map V.ref) (rs.map intD)
  | [], [], _ => by simp only [List.map_nil, RpAll]
  | w :: ws, r :: rs, h => by
    simp only [List.map_cons, RpAll]
    refine ⟨?_, rows_rp h.2⟩
    simp only [intD, Rp]
    exact ⟨w, _, rfl, h.1, rpAll_iV H r⟩
  | [], _ :: _, h => h.elim
  | _ :: _, [], h => h.elim
theorem pf_tables : PFld K C "tables" fun p => .lst [intD p.rewards0, intD p.rewards1] := fun H a p h => by
  obtain ⟨dx, tb, t0, t1, wb, ws, h1, h2, h3, h4, h5, h6⟩ := h.ex
  refine ⟨dx, _, _, h1, (lk_past (by decide +kernel)).trans ((lk_past (by decide +kernel)).trans ((lk_past (by decide +kernel)).trans ((lk_past (by decide +kernel)).trans lk_here))), ?_⟩
  simp only [intD, Rp, RpAll]
  exact ⟨tb, _, rfl, h2, ⟨t0, _, rfl, h3, rpAll_iV H _⟩, ⟨t1, _, rfl, h4, rpAll_iV H _⟩, True.intro⟩
theorem pf_weights : PFld K C "weights" fun p => .lst ((wInt p.transitions).map intD) := fun H a p h => by
  obtain ⟨dx, tb, t0, t1, wb, ws, h1, h2, h3, h4, h5, h6⟩ := h.ex
  refine ⟨dx, _, _, h1, (lk_past (by decide +kernel)).trans ((lk_past (by decide +kernel)).trans ((lk_past (by decide +kernel)).trans ((lk_past (by decide +kernel)).trans ((lk_past (by decide +kernel)).trans lk_here)))), ?_⟩
  simp only [Rp]
  exact ⟨wb, _, rfl, h5, rows_rp h6⟩
end
section
variable {C : Addr} {X : Cx} {F : Fm} {δ : List SD} {a b c e o : Expr} {es : List Expr} {pos p apos : Pos} {k : Nat} {x m : Str}
theorem de_fld {f : Str} {sel : Kp389.Process → D} {pr : Kp389.Process} (hp : PFld X.K C f sel) (hc : Cls X.K C) (hn : NoAttr X.K C f) (h : DE C X e F δ (.proc pr)) (hb : attributeBase e f X.env (eval e X.env) = eval e X.env := by rfl) : DE C X (.Attribute e f pos) F δ (sel pr) :=
  pe_imp (pe_fld h hb) fun σ A Q ⟨M, A0, H, ea, ff, s, q⟩ => ⟨M, A0, H, ea, ff, s, fun v H' A' n r => by
    simp only [Rp] at r
    obtain ⟨u, e1, e2⟩ := r
    obtain ⟨dx, fs, y, h1, h2, h3⟩ := hp _ _ _ e2
    exact ⟨u, C, dx, fs, y, e1, n.ha _ _ h1, hc, hn, h2, q _ _ _ n h3⟩⟩
theorem de_call {R : List D → D → Prop} {ds : List D} {d : D} (G : Cal X.prog X.w X.K X.mg X.base k x (spD X.K C R)) (hr : Room k X.A) (ha : DA C X (e :: es) F δ ds) (hR : R ds d) (hg : Gl X x := by rfl) (hdb : (x == ("__debug__" : Str)) = false := by decide)
    (he : starEach (e :: es) X.env = (false, eval e X.env) :: starEach es X.env := by rfl) (hpl : (backTo pos (starEach es X.env)).any (·.1) = false := by rfl) : DE C X (.Call (.Name x p) (e :: es) [] pos) F δ d := by
  obtain ⟨f, fd, ps, G, hm, hk, hb⟩ := G
  exact pe_imp (pe_call G hr hg hm hk hb .nil pass0 ha hdb he hpl) fun σ A Q ⟨M, A0, H, ea, ff, s, q⟩ => ⟨M, A0, H, ea, ff, s, fun vs H' A' n r =>
    ⟨H', ds, d, n.ha, by rw [List.append_nil]; exact r, hR, fun v H2 A2 n2 r2 => q _ _ _ (n.trans n2) r2⟩⟩
theorem de_meth {R : List D → D → Prop} {ds : List D} {d : D} {pr : Kp389.Process} {pl : Sem Bool} (G : MetC X.prog X.w X.K X.mg X.base k C m (spD X.K C R)) (hr : Room k X.A) (hc : Cls X.K C) (hf : NoF m) (ho : DE C X o F δ (.proc pr)) (ha : DA C X (e :: es) F δ ds) (hR : R (.proc pr :: ds) d)
    (hst : starEach (e :: es) X.env = (false, eval e X.env) :: starEach es X.env := by rfl) (hpl : (backTo pos (starEach es X.env)).any (·.1) = false := by rfl)
    (ht : eval (.Call (.Attribute o m apos) (e :: es) [] pos) X.env = (do
      let ov ← eval o X.env
      standAt apos.atName
      let (f, first) ← holding [ov] (getMethod ov m pl)
      callWith pos f first (backTo pos (starEach (e :: es) X.env)) (backToKw pos (keywordEach [] X.env))) := by rfl) : DE C X (.Call (.Attribute o m apos) (e :: es) [] pos) F δ d := by
  obtain ⟨f, fd, ps, G, hm, hb⟩ := G
  exact pe_imp (pe_meth ho hc hm G hr hb .nil pass0 ha hst hpl ht) fun σ A Q ⟨M, A0, H, ea, ff, s, q⟩ => ⟨M, A0, H, ea, ff, s, fun v H1 A1 n1 r1 => by
    have r1' := r1
    simp only [Rp] at r1
    obtain ⟨u, e1, e2⟩ := r1
    obtain ⟨dx, tb, t0, t1, wb, ws, h1, _⟩ := e2.ex
    exact ⟨u, dx, _, e1, n1.ha _ _ h1, hf.lookup _ _ _, M, A0, H1, n1.ha, F.st n1 ff, s.nx n1, fun vs H2 A2 n2 r2 =>
      ⟨H2, _, d, n2.ha, by rw [List.append_nil]; simp only [RpAll]; exact ⟨rp_mono n2.hh _ _ r1', r2⟩, hR, fun y H3 A3 n3 r3 => q _ _ _ ((n1.trans n2).trans n3) r3⟩⟩⟩
theorem de_meth0 {R : List D → D → Prop} {d : D} {pr : Kp389.Process} {pl : Sem Bool} (G : MetC X.prog X.w X.K X.mg X.base k C m (spD X.K C R)) (hr : Room k X.A) (hc : Cls X.K C) (hf : NoF m) (ho : DE C X o F δ (.proc pr)) (hR : R [.proc pr] d)
    (ht : eval (.Call (.Attribute o m apos) [] [] pos) X.env = (do
      let ov ← eval o X.env
      standAt apos.atName
      let (f, first) ← holding [ov] (getMethod ov m pl)
      callWith pos f first (backTo pos (starEach [] X.env)) (backToKw pos (keywordEach [] X.env))) := by rfl) : DE C X (.Call (.Attribute o m apos) [] [] pos) F δ d := by
  obtain ⟨f, fd, ps, G, hm, hb⟩ := G
  exact pe_imp (pe_meth0 ho hc hm G hr hb .nil pass0 ht) fun σ A Q ⟨M, A0, H, ea, ff, s, q⟩ => ⟨M, A0, H, ea, ff, s, fun v H1 A1 n1 r1 => by
    have r1' := r1
    simp only [Rp] at r1
    obtain ⟨u, e1, e2⟩ := r1
    obtain ⟨dx, tb, t0, t1, wb, ws, h1, _⟩ := e2.ex
    exact ⟨u, dx, _, e1, n1.ha _ _ h1, hf.lookup _ _ _, ⟨H1, _, d, n1.ha, by simp only [RpAll, List.nil_append]; exact ⟨r1', True.intro⟩, hR, fun y H3 A3 n3 r3 => q _ _ _ (n1.trans n3) r3⟩⟩⟩
end
/-! ### what is walked -/
structure Wk (K : PySem.W.Frag) (C : Addr) (J : It) (H1 : Hp) (ds : List D) : Prop where
  go : ∀ i A, Ex H1 A → i < ds.length → J.go i A
  yld : ∀ i d A H x A', Ex H1 H → Ex H A → ds[i]? = some d → J.yld i A x A' → ∃ H', Nx H A H' A' ∧ Rp K C H' x d
  stop : ∀ A, Ex H1 A → J.stop ds.length A
def tiD (K : PySem.W.Frag) (C : Addr) (F : Fm) (δ : List SD) (ds : List D) : TI := fun σ A R => ∃ M A0 H, Ex H A ∧ F.P H A ∧ Slots K C M A0 H A σ δ ∧ ∀ J H' A', Nx H A H' A' → Wk K C J H' ds → R J A'
def DI (C : Addr) (X : Cx) (tg iter : Expr) (F : Fm) (δ : List SD) (ds : List D) : Prop := PI X tg iter (tiD X.K C F δ ds)
theorem pi_imp {X : Cx} {tg e : Expr} {t t' : TI} (h : PI X tg e t) (i : ∀ σ A Q, t' σ A Q → t σ A Q) : PI X tg e t' := ⟨fun pins s σ H Q I q => h.run pins s σ H Q I (i σ H Q q)⟩
section
variable {C : Addr} {X : Cx} {F : Fm} {δ : List SD} {a b c e tg : Expr} {pos p tpos : Pos}
theorem di_list {ds : List D} (h : DE C X e F δ (.lst ds)) : DI C X tg e F δ ds :=
  pi_imp (pi_list h) fun σ A Q ⟨M, A0, H, ea, ff, s, q⟩ => ⟨M, A0, H, ea, ff, s, fun v H1 A1 n r => by
    simp only [Rp] at r
    obtain ⟨u, xs, e1, e2, e3⟩ := r
    refine ⟨u, e1, ⟨xs, SqL.of (n.ha _ _ e2)⟩, q _ _ _ n ⟨fun i A' ex hi => ?_, fun i d A' H' x A2 ex ex2 hd hy => ?_, fun A' ex => ?_⟩⟩
    · have hi' : i < xs.length := by rw [rpAll_len e3]; exact hi
      exact ⟨xs, xs[i], SqL.of (ex _ _ e2), List.getElem?_eq_getElem hi'⟩
    · obtain ⟨rfl, hy⟩ := hy
      obtain ⟨v, h1, h2⟩ := rpAll_get e3 hd
      have := hy xs (SqL.of (ex2 _ _ (ex _ _ e2)))
      rw [h1] at this
      cases this
      exact ⟨H', .refl ex2, rp_mono ex _ _ h2⟩
    · exact ⟨xs, SqL.of (ex _ _ e2), by rw [rpAll_len e3]; exact Nat.le_refl _⟩⟩
theorem di_tup {ds : List D} (h : DE C X e F δ (.tup ds)) : DI C X tg e F δ ds :=
  pi_imp (pi_tup h) fun σ A Q ⟨M, A0, H, ea, ff, s, q⟩ => ⟨M, A0, H, ea, ff, s, fun v H1 A1 n r => by
    simp only [Rp] at r
    obtain ⟨u, xs, e1, e2, e3⟩ := r
    refine ⟨u, e1, ⟨xs, sqt_mono n.ha e2⟩, q _ _ _ n ⟨fun i A' ex hi => ?_, fun i d A' H' x A2 ex ex2 hd hy => ?_, fun A' ex => ?_⟩⟩
    · have hi' : i < xs.length := by rw [rpAll_len e3]; exact hi
      exact ⟨xs, xs[i], sqt_mono ex e2, List.getElem?_eq_getElem hi'⟩
    · obtain ⟨rfl, hy⟩ := hy
      obtain ⟨v, h1, h2⟩ := rpAll_get e3 hd
      have := hy xs (sqt_mono (ex.trans ex2) e2)
      rw [h1] at this
      cases this
      exact ⟨H', .refl ex2, rp_mono ex _ _ h2⟩
    · exact ⟨xs, sqt_mono ex e2, by rw [rpAll_len e3]; exact Nat.le_refl _⟩⟩
theorem di_range {n : Int} (hm : MgN X.mg "range") (h : DE C X a F δ (.int n)) (h1 : 0 ≤ n) (h2 : n < 2 ^ 62) (hg : Gl X "range" := by rfl) (hs : starEach [a] X.env = [(false, eval a X.env)] := by rfl)
    (hs2 : starEach (a :: []) X.env = (false, eval a X.env) :: starEach [] X.env := by rfl) : DI C X tg (.Call (.Name "range" p) [a] [] pos) F δ ((List.range n.toNat).map fun (k : Nat) => D.int (k : Int)) :=
  pi_imp (pi_range1 hg hm (da_cons h da_nil hs2) hs) fun σ A Q ⟨M, A0, H, ea, ff, s, q⟩ => ⟨M, A0, H, ea, ff, s, fun vs H1 A1 nn r => by
    match vs, r with
    | [v], r =>
      simp only [RpAll, Rp] at r
      refine ⟨n, by rw [r.1], by omega, h2, q _ _ _ nn ⟨fun i A' ex hi => ?_, fun i d A' H' x A2 ex ex2 hd hy => ?_, fun A' ex => ?_⟩⟩
      · have : i < n.toNat := by simpa using hi
        exact this
      · obtain ⟨rfl, rfl⟩ := hy
        refine ⟨H', .refl ex2, ?_⟩
        rw [List.getElem?_map] at hd
        obtain ⟨k, hk, rfl⟩ := Option.map_eq_some_iff.mp hd
        have hi := (List.getElem?_eq_some_iff.mp hk)
        obtain ⟨hlt, e⟩ := hi
        rw [List.getElem_range] at e
        subst e
        simp only [Rp, Int.zero_add]
      · show n.toNat ≤ _
        simp
    | [], r => simp only [RpAll] at r
    | _ :: _ :: _, r => simp only [RpAll] at r; exact r.2.elim⟩
theorem di_rangeN {n : Nat} (hm : MgN X.mg "range") (h : DE C X a F δ (.int (n : Int))) (h2 : n ≤ 1000000) (hg : Gl X "range" := by rfl) (hs : starEach [a] X.env = [(false, eval a X.env)] := by rfl)
    (hs2 : starEach (a :: []) X.env = (false, eval a X.env) :: starEach [] X.env := by rfl) : DI C X tg (.Call (.Name "range" p) [a] [] pos) F δ ((List.range n).map fun (k : Nat) => D.int (k : Int)) := di_range hm h (by omega) (by omega) hg hs hs2
theorem di_zip {ds gs : List D} {elts : List Expr} {kk : Nat} (hm : MgN X.mg "zip") (ha : DE C X a F δ (.lst ds)) (hb : DE C X b F δ (.lst gs)) (hl : ds.length = gs.length) (hg : Gl X "zip" := by rfl)
    (hs : starEach [a, b] X.env = (false, eval a X.env) :: starEach [b] X.env := by rfl) (hs2 : starEach (b :: []) X.env = (false, eval b X.env) :: starEach [] X.env := by rfl) (hpl : (backTo pos (starEach [b] X.env)).any (·.1) = false := by rfl) :
    DI C X (.Tuple elts kk tpos) (.Call (.Name "zip" p) [a, b] [] pos) F δ (List.zipWith (fun d g => D.tup [d, g]) ds gs) :=
  pi_imp (pi_zip hg hm (da_cons ha (da_cons hb da_nil hs2) hs) hs hpl) fun σ A Q ⟨M, A0, H, ea, ff, s, q⟩ => ⟨M, A0, H, ea, ff, s, fun vs H1 A1 nn r => by
    match vs, r with
    | [v, u], r =>
      simp only [RpAll, Rp] at r
      obtain ⟨⟨a1, xs, e1, e2, e3⟩, ⟨b1, ys, f1, f2, f3⟩, _⟩ := r
      refine ⟨a1, b1, xs, ys, by rw [e1, f1], SqL.of (nn.ha _ _ e2), SqL.of (nn.ha _ _ f2), q _ _ _ nn ⟨fun i A' ex hi => ?_, fun i d A' H' x A2 ex ex2 hd hy => ?_, fun A' ex => ?_⟩⟩
      · have hi' : i < ds.length := by simp only [List.length_zipWith] at hi; omega
        have h1 : i < xs.length := by rw [rpAll_len e3]; exact hi'
        have h2 : i < ys.length := by rw [rpAll_len f3, ← hl]; exact hi'
        exact ⟨xs, ys, xs[i], ys[i], SqL.of (ex _ _ e2), SqL.of (ex _ _ f2), List.getElem?_eq_getElem h1, List.getElem?_eq_getElem h2⟩
      · obtain ⟨T, x1, y1, rfl, hT, rfl, hx, hy⟩ := hy
        rw [List.getElem?_zipWith_eq_some] at hd
        obtain ⟨d1, g1, hd1, hg1, rfl⟩ := hd
        obtain ⟨v1, h1, h2⟩ := rpAll_get e3 hd1
        obtain ⟨v2, h3, h4⟩ := rpAll_get f3 hg1
        have q1 := hx xs (SqL.of (ex2 _ _ (ex _ _ e2)))
        have q2 := hy ys (SqL.of (ex2 _ _ (ex _ _ f2)))
        rw [h1] at q1; cases q1
        rw [h3] at q2; cases q2
        refine ⟨_, .new ex2 hT, ?_⟩
        simp only [Rp, RpAll]
        exact ⟨T, _, rfl, SqT.of upd_same, rp_mono (ex.trans (.new (ex2.free hT))) _ _ h2, rp_mono (ex.trans (.new (ex2.free hT))) _ _ h4, True.intro⟩
      · refine ⟨xs, ys, SqL.of (ex _ _ e2), SqL.of (ex _ _ f2), .inl ?_⟩
        rw [rpAll_len e3, List.length_zipWith]
        omega
    | [], r => simp only [RpAll] at r
    | [_], r => simp only [RpAll] at r; exact r.2.elim
    | _ :: _ :: _ :: _, r => simp only [RpAll] at r; exact r.2.2.elim⟩
end
/-! ### comprehensions -/
section
variable {C : Addr} {X : Cx} {F : Fm} {δ : List SD}
theorem Slots.un {K : PySem.W.Frag} {M : Mt} {A0 H A : Hp} {σ : L2.St} {δ : List SD} (s : Slots K C M A0 H A σ δ) (i : Nat) (o : Option V) : Slots K C M A0 H A (σ.set i o) (δ.set i .un) := by
  refine ⟨by simp [s.len], fun j t h => ?_, fun j k ds es p hjk h1 h2 h3 => ?_⟩
  · by_cases e : i = j
    · subst e
      have hi : i < δ.length := by have := (List.getElem?_eq_some_iff.mp h).1; simpa using this
      rw [List.getElem?_set_self hi] at h
      cases h
      cases ((σ.set i o)[i]?).getD none <;> exact True.intro
    · rw [List.getElem?_set_ne e] at h ⊢
      exact s.at_ j t h
  · have ej : i ≠ j := fun e => by
      subst e
      by_cases hi : i < δ.length
      · rw [List.getElem?_set_self hi] at h1; cases h1
      · rw [List.getElem?_eq_none (by simp; omega)] at h1; cases h1
    have ek : i ≠ k := fun e => by
      subst e
      by_cases hi : i < δ.length
      · rw [List.getElem?_set_self hi] at h2; cases h2
      · rw [List.getElem?_eq_none (by simp; omega)] at h2; cases h2
    rw [List.getElem?_set_ne ej] at h1 h3
    rw [List.getElem?_set_ne ek] at h2 ⊢
    exact s.apart j k ds es p hjk h1 h2 h3
/-- the reading of a comprehension's loop, any target: from the item's data the element's -/
theorem lc_readG {K : PySem.W.Frag} {ds es : List D} {σ : L2.St} {A : Hp} {Q : VK} {g : TG} {te : TE} {vs : List Nat} (hl : es.length = ds.length) (hz : ds.length ≤ sizeLine)
    (hg : ∀ (k : Nat) (d e : D), ds[k]? = some d → es[k]? = some e → ∀ M A0 H A x, Ex H A → F.P H A → Slots K C M A0 H A σ δ → Rp K C H x d → ∀ R : VK, (∀ v H' A', Nx H A H' A' → Rp K C H' v e → R v A') → g x (wipe σ vs) A fun σ2 A2 => wipe σ2 vs = wipe σ vs ∧ te σ2 A2 R)
    (h : teN K C F δ es σ A Q) : tLc (tiD K C F δ ds) g tYes te vs σ A Q := by
  obtain ⟨M, A0, H, ea, ff, s, q⟩ := h
  refine ⟨M, A0, H, ea, ff, s, fun J H1 A1 n1 wk T hT => ?_⟩
  refine ⟨fun i m A2 => m = ds.length - i ∧ i ≤ ds.length ∧ ∃ H2 acc, Nx H A H2 A2 ∧ Ex H1 H2 ∧ (∀ b o, A1 b = some o → A2 b = some o) ∧ (∀ b, H1 b = none → A1 b ≠ none → H2 b = none) ∧ H2 T = none ∧ A2 T = some (.lst acc) ∧ RpAll K C H2 acc (es.take i), ⟨ds.length, by simp, Nat.zero_le _, H1, [], ?_, .refl _, ?_, fun b h1 _ => h1, n1.ha.free hT, upd_same, by simp only [List.take_zero, RpAll]⟩, ?_⟩
  · exact n1.trans (.newA n1.ha hT)
  · intro b o hb
    rw [upd_ne (ne_of_none hb hT)]; exact hb
  · rintro i m A2 ⟨rfl, hi, H2, acc, n2, x2, a2, sp2, hT2, aT2, r2⟩
    have ex2 : Ex H1 A2 := x2.trans n2.ha
    by_cases hlt : i < ds.length
    · refine .inr ⟨wk.go i A2 ex2 hlt, fun A3 => ∃ H3 acc, Nx H A H3 A3 ∧ Ex H1 H3 ∧ (∀ b o, A1 b = some o → A3 b = some o) ∧ (∀ b, H1 b = none → A1 b ≠ none → H3 b = none) ∧ H3 T = none ∧ A3 T = some (.lst acc) ∧ RpAll K C H3 acc (es.take (i + 1)), fun A3 hA3 => ⟨ds.length - (i + 1), by omega, rfl, hlt, hA3⟩, fun x A3 hy => ?_⟩
      obtain ⟨d, hd⟩ : ∃ d, ds[i]? = some d := ⟨_, List.getElem?_eq_getElem hlt⟩
      obtain ⟨e, he⟩ : ∃ e, es[i]? = some e := ⟨_, List.getElem?_eq_getElem (by omega)⟩
      obtain ⟨H3, n3, r3⟩ := wk.yld i d A2 H2 x A3 x2 n2.ha hd hy
      have nHA : Nx H A H3 A3 := n2.trans n3
      have n13 : Nx H1 A1 H3 A3 := ⟨x2.trans n3.hh, fun b o hb => n3.aa _ _ (a2 b o hb), n3.ha, fun b h1 h2 => n3.sep b (sp2 b h1 h2) fun z => by
        cases q' : A1 b with
        | none => exact h2 q'
        | some o' => rw [a2 b o' q'] at z; cases z⟩
      refine (?_ : g x (wipe σ vs) A3 fun σ2 A4 => wipe σ2 vs = wipe σ vs ∧ tYes σ2 A4 _)
      have := hg i d e hd he M A0 H3 A3 x n3.ha (F.st nHA ff) (s.nx nHA) r3 (fun y A4 => ∃ acc, A4 T = some (.lst acc) ∧ acc.length < sizeLine ∧ ∃ H4 acc', Nx H A H4 (upd A4 T (.lst (acc ++ [y]))) ∧ Ex H1 H4 ∧ (∀ b o, A1 b = some o → (upd A4 T (.lst (acc ++ [y]))) b = some o) ∧ (∀ b, H1 b = none → A1 b ≠ none → H4 b = none) ∧ H4 T = none ∧ (upd A4 T (.lst (acc ++ [y]))) T = some (.lst acc') ∧ RpAll K C H4 acc' (es.take (i + 1)))
        fun v H4 A4 n4 r4 => ?_
      · exact this
      · have nT3 : H3 T = none := n3.sep T hT2 (by rw [aT2]; exact fun z => by cases z)
        have aT3 : A3 T = some (.lst acc) := n3.aa _ _ aT2
        have nT4 : H4 T = none := n4.sep T nT3 (by rw [aT3]; exact fun z => by cases z)
        have aT4 : A4 T = some (.lst acc) := n4.aa _ _ aT3
        have n14 := n13.trans n4
        have nHA4 := nHA.trans n4
        have al := rpAll_len r2
        rw [List.length_take] at al
        refine ⟨acc, aT4, by omega, H4, _, ⟨nHA4.hh, fun b o hb => ?_, n4.ha.mut nT4, nHA4.sep⟩, n14.hh, fun b o hb => ?_, n14.sep, nT4, upd_same, ?_⟩
        · have : b ≠ T := fun z => by
            subst z
            rw [n1.aa _ _ hb] at hT; cases hT
          rw [upd_ne this]; exact nHA4.aa _ _ hb
        · rw [upd_ne (ne_of_none hb hT)]; exact n14.aa _ _ hb
        · rw [List.take_add_one, he]
          exact rpAll_app (rpAll_mono (n3.hh.trans n4.hh) _ _ r2) (by simp only [Option.toList, RpAll]; exact ⟨r4, True.intro⟩)
    · have e : i = ds.length := by omega
      subst e
      refine .inl ⟨wk.stop A2 ex2, ?_⟩
      rw [← hl, List.take_length] at r2
      refine q T acc H2 A2 n2 ?_ hT2 aT2 r2
      exact n1.aa.free hT
variable {tg iter elt : Expr} {scope : Scope} {own : List (Str × Nat)} {pos : Pos}
/-- one name as the target -/
theorem dn_lc {i : Nat} {n : Str} {ds es : List D} (hi : DI C X tg iter F δ ds) (ok : BlkOk X.N X.env.scope scope [(n, i)]) (hN : X.N.Nodup)
    (hg : ∀ (s : Shared) (H : Hp) (C' : Addr) (cl : List (Str × Addr)) (fp : List Addr), PG (X.blk s H scope (compEnvC scope cl C' X.env) fp) tg (gName i)) (hl : es.length = ds.length) (hz : ds.length ≤ sizeLine)
    (he : ∀ (k : Nat) (d e : D), ds[k]? = some d → es[k]? = some e → ∀ (s : Shared) (H : Hp) (C' : Addr) (cl : List (Str × Addr)) (fp : List Addr), DE C (X.blk s H scope (compEnvC scope cl C' X.env) fp) elt F (δ.set i (.dat d)) e)
    (hc : X.calm = true := by rfl) (hs : ∀ x, foldedSetIterable iter X.env x = pure x := by intro _; rfl) : DN C X (.ListComp elt [⟨tg, iter, [], 0⟩] scope pos) F δ es := by
  refine pe_imp (pe_lc (own := [(n, i)]) (te := fun σ A Q => ∃ k d e, ds[k]? = some d ∧ es[k]? = some e ∧ teD X.K C F (δ.set i (.dat d)) e σ A Q) hc hN hi ok hg (fun _ _ _ _ _ => pts_nil) (fun s H C' cl fp => ⟨fun pins s2 σ H2 Q I ⟨k, d, e, h1, h2, h3⟩ => (he k d e h1 h2 s H C' cl fp).run pins s2 σ H2 Q I h3⟩) hs) fun σ A Q h => ?_
  refine lc_readG hl hz (fun k d e hd he' M A0 H A x ha ff s r R hR => ?_) h
  refine ⟨?_, k, d, e, hd, he', M, A0, H, ha, ff, ?_, hR⟩
  · show ((σ.set i none).set i (some x)).set i none = σ.set i none
    rw [List.set_set, List.set_set]
  · show Slots X.K C M A0 H A ((σ.set i none).set i (some x)) (δ.set i (.dat d))
    rw [List.set_set]
    exact s.setD r
/-- two names as the target, over pairs -/
theorem dn_lc2 {i j : Nat} {n m : Str} {l : List (D × D)} {es : List D} (hi : DI C X tg iter F δ (l.map fun p => D.tup [p.1, p.2])) (ok : BlkOk X.N X.env.scope scope [(n, i), (m, j)]) (hN : X.N.Nodup) (hij : i ≠ j)
    (hg : ∀ (s : Shared) (H : Hp) (C' : Addr) (cl : List (Str × Addr)) (fp : List Addr), PG (X.blk s H scope (compEnvC scope cl C' X.env) fp) tg (gTup X.K 2 (gCons (gName i) (gCons (gName j) gNil)))) (hl : es.length = l.length) (hz : l.length ≤ sizeLine)
    (he : ∀ (k : Nat) (p : D × D) (e : D), l[k]? = some p → es[k]? = some e → ∀ (s : Shared) (H : Hp) (C' : Addr) (cl : List (Str × Addr)) (fp : List Addr), DE C (X.blk s H scope (compEnvC scope cl C' X.env) fp) elt F ((δ.set i (.dat p.1)).set j (.dat p.2)) e)
    (hc : X.calm = true := by rfl) (hs : ∀ x, foldedSetIterable iter X.env x = pure x := by intro _; rfl) : DN C X (.ListComp elt [⟨tg, iter, [], 0⟩] scope pos) F δ es := by
  refine pe_imp (pe_lc (own := [(n, i), (m, j)]) (te := fun σ A Q => ∃ k p e, l[k]? = some p ∧ es[k]? = some e ∧ teD X.K C F ((δ.set i (.dat p.1)).set j (.dat p.2)) e σ A Q) hc hN hi ok hg (fun _ _ _ _ _ => pts_nil) (fun s H C' cl fp => ⟨fun pins s2 σ H2 Q I ⟨k, d, e, h1, h2, h3⟩ => (he k d e h1 h2 s H C' cl fp).run pins s2 σ H2 Q I h3⟩) hs) fun σ A Q h => ?_
  refine lc_readG (by rw [List.length_map]; exact hl) (by rw [List.length_map]; exact hz) (fun k d e hd he' M A0 H A x ha ff s r R hR => ?_) h
  rw [List.getElem?_map] at hd
  obtain ⟨p, hp, rfl⟩ := Option.map_eq_some_iff.mp hd
  simp only [Rp, RpAll] at r
  obtain ⟨t, xs, e1, e2, e3⟩ := r
  match xs, e3 with
  | [u, v], e3 =>
    simp only [RpAll] at e3
    refine ⟨t, [u, v], e1, sqt_mono ha e2, rfl, u, [v], rfl, v, [], rfl, rfl, ?_, k, p, e, hp, he', M, A0, H, ha, ff, ?_, hR⟩
    · show (((((σ.set j none).set i none).set i (some u)).set j (some v)).set j none).set i none = (σ.set j none).set i none
      rw [List.set_set, List.set_set, List.set_comm _ _ hij, List.set_set, List.set_set]
    · show Slots X.K C M A0 H A ((((σ.set j none).set i none).set i (some u)).set j (some v)) _
      rw [List.set_set, List.set_comm _ _ hij, List.set_set]
      rw [List.set_comm _ _ hij.symm]
      exact (s.setD (i := i) e3.1).setD (i := j) e3.2.1
  | [], e3 => simp only [RpAll] at e3
  | [_], e3 => simp only [RpAll] at e3; exact e3.2.elim
  | _ :: _ :: _ :: _, e3 => simp only [RpAll] at e3; exact e3.2.2.elim
end
end Sw
namespace Sw
open PySem PySem.Spec PyProof.Rows L2
inductive Out where
  | nx (F : Fm) (δ : List SD) | rt (F : Fm) (d : D)
def tsD (K : PySem.W.Frag) (C : Addr) (M : Mt) (F : Fm) (δ : List SD) (o : Out) : TS := fun E σ A => ∃ H0 A0 H, StA K C M F H0 A0 H A σ δ ∧ match o with
  | .nx F' δ' => ∀ σ' H' A', StA K C M F' H0 A0 H' A' σ' δ' → E.nx σ' A'
  | .rt F' d => ∀ v H' A', StA K C M F' H0 A0 H' A' [] [] → Rp K C H' v d → E.rt v A'
def DS (C : Addr) (X : Cx) (M : Mt) (st : Stmt) (F : Fm) (δ : List SD) (o : Out) : Prop := PS X st (tsD X.K C M F δ o)
def DB (C : Addr) (X : Cx) (M : Mt) (sts : List Stmt) (F : Fm) (δ : List SD) (o : Out) : Prop := PSs X sts (tsD X.K C M F δ o)
theorem ps_imp {X : Cx} {e : Stmt} {t t' : TS} (h : PS X e t) (i : ∀ E σ A, t' E σ A → t E σ A) : PS X e t' := ⟨fun pins s σ H Q I q => h.run pins s σ H Q I (i Q σ H q)⟩
theorem pss_imp {X : Cx} {e : List Stmt} {t t' : TS} (h : PSs X e t) (i : ∀ E σ A, t' E σ A → t E σ A) : PSs X e t' := ⟨fun pins s σ H Q I q => h.run pins s σ H Q I (i Q σ H q)⟩
/-- an expression that may change what the frame F tells -/
def teM (K : PySem.W.Frag) (C : Addr) (M : Mt) (F : Fm) (δ : List SD) (F' : Fm) (d : D) : TE := fun σ A Q => ∃ H0 A0 H, StA K C M F H0 A0 H A σ δ ∧ ∀ v H' A', StA K C M F' H0 A0 H' A' σ δ → Rp K C H' v d → Q v A'
def DM (C : Addr) (X : Cx) (M : Mt) (e : Expr) (F : Fm) (δ : List SD) (F' : Fm) (d : D) : Prop := PE X e (teM X.K C M F δ F' d)
section
variable {K : PySem.W.Frag} {C : Addr} {M : Mt} {F : Fm} {H0 A0 H A : Hp} {σ : L2.St} {δ : List SD}
theorem StA.nil (s : StA K C M F H0 A0 H A σ δ) : StA K C M F H0 A0 H A [] [] := ⟨s.hh, s.aa, s.at0, s.ha, s.sep, s.f, ⟨rfl, fun i t h => by simp at h, fun i j ds es p _ h => by simp at h⟩⟩
theorem StA.sls {σ' : L2.St} {δ' : List SD} (s : StA K C M F H0 A0 H A σ δ) (q : Slots K C M A0 H A σ' δ') : StA K C M F H0 A0 H A σ' δ' := ⟨s.hh, s.aa, s.at0, s.ha, s.sep, s.f, q⟩
/-- the own list at slot i is now what it is -/
theorem Slots.freeze (s : Slots K C M A0 H A σ δ) {i : Nat} {ds : List D} (h : δ[i]? = some (.own ds)) {p : Addr} {xs : List V} (hs : σ[i]? = some (some (.ref p))) (hp : H p = none) (ha : A p = some (.lst xs)) (r : RpAll K C H xs ds) : Slots K C M A0 (upd H p (.lst xs)) A σ (δ.set i (.dat (.lst ds))) := by
  refine ⟨by simp [s.len], fun j t hj => ?_, fun j k ds' es q hjk h1 h2 h3 => ?_⟩
  · by_cases e : i = j
    · subst e
      have hi : i < δ.length := (List.getElem?_eq_some_iff.mp h).1
      rw [List.getElem?_set_self hi] at hj
      cases hj
      rw [hs]
      show Rp K C _ (V.ref p) _
      simp only [Rp]
      exact ⟨p, xs, rfl, upd_same, rpAll_mono (.new hp) _ _ r⟩
    · rw [List.getElem?_set_ne e] at hj
      have := s.at_ j t hj
      cases t with
      | un => cases (σ[j]?).getD none <;> exact True.intro
      | dat d =>
        cases q : (σ[j]?).getD none with
        | none => rw [q] at this; exact this.elim
        | some v => rw [q] at this; exact rp_mono (.new hp) d v this
      | own es =>
        cases q : (σ[j]?).getD none with
        | none => rw [q] at this; exact this.elim
        | some v =>
          rw [q] at this
          obtain ⟨p', xs', e1, h1, h2, h3, h4, h5⟩ := this
          subst e1
          have qq : σ[j]? = some (some (V.ref p')) := by
            cases q2 : σ[j]? with
            | none => rw [q2] at q; cases q
            | some o => rw [q2] at q; cases o with
              | none => cases q
              | some v => rw [show v = V.ref p' from Option.some.inj q]
          have ne : p' ≠ p := fun z => by
            subst z
            exact s.apart i j ds es p' e h hj hs qq
          exact ⟨p', xs', rfl, by rw [upd_ne ne]; exact h1, h2, rpAll_mono (.new hp) _ _ h3, h4, h5⟩
  · have ej : i ≠ j := fun e => by
      subst e
      have hi : i < δ.length := (List.getElem?_eq_some_iff.mp h).1
      rw [List.getElem?_set_self hi] at h1; cases h1
    have ek : i ≠ k := fun e => by
      subst e
      have hi : i < δ.length := (List.getElem?_eq_some_iff.mp h).1
      rw [List.getElem?_set_self hi] at h2; cases h2
    rw [List.getElem?_set_ne ej] at h1
    rw [List.getElem?_set_ne ek] at h2
    exact s.apart j k ds' es q hjk h1 h2 h3
theorem StA.freeze (s : StA K C M F0 H0 A0 H A σ δ) {i : Nat} {ds : List D} (h : δ[i]? = some (.own ds)) : ∃ p H', σ[i]? = some (some (.ref p)) ∧ StA K C M F0 H0 A0 H' A σ (δ.set i (.dat (.lst ds))) ∧ Rp K C H' (.ref p) (.lst ds) := by
  obtain ⟨p, xs, e1, h1, h2, h3, h4, h5⟩ := s.sl.own h
  refine ⟨p, upd H p (.lst xs), e1, ⟨s.hh.trans (.new h1), s.aa, s.at0, fun b o z => ?_, fun b z1 z2 => ?_, True.intro, s.sl.freeze h e1 h1 h2 h3⟩, ?_⟩
  · by_cases hb : b = p
    · subst hb; rw [upd_same] at z; cases z; exact h2
    · rw [upd_ne hb] at z; exact s.ha b o z
  · have : b ≠ p := fun e => z2 (by rw [e]; exact h4)
    rw [upd_ne this]; exact s.sep b z1 z2
  · simp only [Rp]
    exact ⟨p, xs, rfl, upd_same, rpAll_mono (.new h1) _ _ h3⟩
/-- the own list at slot i becomes another list -/
theorem Slots.mut (s : Slots K C M A0 H A σ δ) {i : Nat} {ds gs : List D} (h : δ[i]? = some (.own ds)) {p : Addr} {ys : List V} (hs : σ[i]? = some (some (.ref p))) (hp : H p = none) (h0 : A0 p = none) (hm : ¬ M p) (r : RpAll K C H ys gs) :
    Slots K C M A0 H (upd A p (.lst ys)) σ (δ.set i (.own gs)) := by
  refine ⟨by simp [s.len], fun j t hj => ?_, fun j k ds' es q hjk h1 h2 h3 => ?_⟩
  · by_cases e : i = j
    · subst e
      have hi : i < δ.length := (List.getElem?_eq_some_iff.mp h).1
      rw [List.getElem?_set_self hi] at hj
      cases hj
      rw [hs]
      exact ⟨p, ys, rfl, hp, upd_same, r, h0, hm⟩
    · rw [List.getElem?_set_ne e] at hj
      have := s.at_ j t hj
      cases t with
      | un => cases (σ[j]?).getD none <;> exact True.intro
      | dat d =>
        cases q : (σ[j]?).getD none with
        | none => rw [q] at this; exact this.elim
        | some v => rw [q] at this; exact this
      | own es =>
        cases q : (σ[j]?).getD none with
        | none => rw [q] at this; exact this.elim
        | some v =>
          rw [q] at this
          obtain ⟨p', xs', e1, h1, h2, h3, h4, h5⟩ := this
          subst e1
          have qq : σ[j]? = some (some (V.ref p')) := by
            cases q2 : σ[j]? with
            | none => rw [q2] at q; cases q
            | some o => rw [q2] at q; cases o with
              | none => cases q
              | some v => rw [show v = V.ref p' from Option.some.inj q]
          have ne : p' ≠ p := fun z => by
            subst z
            exact s.apart i j ds es p' e h hj hs qq
          exact ⟨p', xs', rfl, h1, by rw [upd_ne ne]; exact h2, h3, h4, h5⟩
  · have hi : i < δ.length := (List.getElem?_eq_some_iff.mp h).1
    have up : ∀ (l : Nat) (gs' : List D), (δ.set i (.own gs))[l]? = some (SD.own gs') → ∃ gs'', δ[l]? = some (SD.own gs'') := fun l gs' z => by
      by_cases e : i = l
      · subst e; exact ⟨ds, h⟩
      · rw [List.getElem?_set_ne e] at z; exact ⟨gs', z⟩
    obtain ⟨_, z1⟩ := up j ds' h1
    obtain ⟨_, z2⟩ := up k es h2
    exact s.apart j k _ _ q hjk z1 z2 h3
theorem StA.mut (s : StA K C M F0 H0 A0 H A σ δ) {i : Nat} {ds gs : List D} (h : δ[i]? = some (.own ds)) {p : Addr} {ys : List V} (hs : σ[i]? = some (some (.ref p))) (r : RpAll K C H ys gs) : StA K C M F0 H0 A0 H (upd A p (.lst ys)) σ (δ.set i (.own gs)) := by
  obtain ⟨p', xs, e1, h1, h2, h3, h4, h5⟩ := s.sl.own h
  rw [hs] at e1
  cases e1
  refine ⟨s.hh, fun b o z g => ?_, fun b z => ?_, s.ha.mut h1, s.sep, True.intro, s.sl.mut h hs h1 h4 h5 r⟩
  · rw [upd_ne (ne_of_none z h4)]; exact s.aa b o z g
  · by_cases hb : b = p
    · subst hb; exact absurd h4 z
    · rw [upd_ne hb]; exact s.at0 b z
/-- from another base -/
theorem StA.rebase {H1 A1 : Hp} {σ1 : L2.St} {δ1 : List SD} {F1 : Fm} (s0 : StA K C M F1 H0 A0 H1 A1 σ1 δ1) (s : StA K C M F H1 A0 H A σ δ) : StA K C M F H0 A0 H A σ δ :=
  ⟨s0.hh.trans s.hh, s.aa, s.at0, s.ha, fun b z1 z2 => s.sep b (s0.sep b z1 z2) z2, s.f, s.sl⟩
theorem StA.tobase {H1 A1 : Hp} {σ1 : L2.St} {δ1 : List SD} {F1 : Fm} (s0 : StA K C M F1 H0 A0 H1 A1 σ1 δ1) (e : Ex H1 H) (s : StA K C M F H0 A0 H A σ δ) : StA K C M F H1 A0 H A σ δ :=
  ⟨e, s.aa, s.at0, s.ha, fun b z1 z2 => s.sep b (s0.hh.free z1) z2, s.f, s.sl⟩
/-- what is forgotten -/
inductive SLe : List SD → List SD → Prop where
  | nil : SLe [] []
  | same {s : SD} {l l' : List SD} (h : SLe l l') : SLe (s :: l) (s :: l')
  | un {s : SD} {l l' : List SD} (h : SLe l l') : SLe (s :: l) (.un :: l')
theorem SLe.len {l l' : List SD} (h : SLe l l') : l.length = l'.length := by
  induction h <;> simp_all
theorem SLe.at_ {l l' : List SD} (h : SLe l l') : ∀ (i : Nat), l'[i]? = l[i]? ∨ l'[i]? = some SD.un := by
  induction h with
  | nil => intro i; exact .inl rfl
  | same h ih =>
    intro i
    cases i with
    | zero => exact .inl rfl
    | succ i => simpa using ih i
  | un h ih =>
    intro i
    cases i with
    | zero => exact .inr rfl
    | succ i => simpa using ih i
theorem Slots.forget {δ' : List SD} (s : Slots K C M A0 H A σ δ) (h : SLe δ δ') : Slots K C M A0 H A σ δ' := by
  refine ⟨s.len.trans h.len, fun i t ht => ?_, fun i j ds es p hij h1 h2 h3 => ?_⟩
  · rcases h.at_ i with z | z
    · exact s.at_ i t (z ▸ ht)
    · rw [z] at ht; cases ht
      cases (σ[i]?).getD none <;> exact True.intro
  · rcases h.at_ i with z | z
    · rcases h.at_ j with y | y
      · exact s.apart i j ds es p hij (z ▸ h1) (y ▸ h2) h3
      · rw [y] at h2; cases h2
    · rw [z] at h1; cases h1
end
section
variable {C : Addr} {X : Cx} {M : Mt} {F F1 F2 : Fm} {δ δ1 δ2 : List SD} {o : Out} {st : Stmt} {rest body : List Stmt} {a b c e tg iter : Expr} {pos : Pos}
/-! blocks -/
theorem db_nil : DB C X M [] F δ (.nx F δ) := pss_imp pss_nil fun E σ A ⟨H0, A0, H, s, q⟩ => q _ _ _ s
theorem db_cons (h1 : DS C X M st F δ (.nx F1 δ1)) (h2 : DB C X M rest F1 δ1 o) : DB C X M (st :: rest) F δ o :=
  pss_imp (pss_cons h1 h2) fun E σ A ⟨H0, A0, H, s, q⟩ => ⟨H0, A0, H, s, fun σ' H' A' s' => ⟨H0, A0, H', s', q⟩⟩
theorem db_one (h1 : DS C X M st F δ o) : DB C X M [st] F δ o := pss_imp (pss_one h1) fun E σ A h => by
  obtain ⟨H0, A0, H, s, q⟩ := h
  exact ⟨H0, A0, H, s, q⟩
theorem db_ret {d : D} (h1 : DS C X M st F δ (.rt F1 d)) : DB C X M (st :: rest) F δ (.rt F1 d) := pss_imp (pss_cons h1 pss_never) fun E σ A ⟨H0, A0, H, s, q⟩ => ⟨H0, A0, H, s, q⟩
/-- a list of one's own is left as it is -/
theorem db_freeze (i : Nat) {ds : List D} (h : DB C X M rest F0 (δ.set i (.dat (.lst ds))) o) (hi : δ[i]? = some (.own ds) := by rfl) : DB C X M rest F0 δ o := pss_imp h fun E σ A ⟨H0, A0, H, s, q⟩ => by
  obtain ⟨p, H', _, s', _⟩ := s.freeze hi
  exact ⟨H0, A0, H', s', q⟩
theorem db_forget (h : DB C X M rest F δ (.nx F1 δ1)) (l : SLe δ1 δ2) : DB C X M rest F δ (.nx F1 δ2) := pss_imp h fun E σ A ⟨H0, A0, H, s, q⟩ => ⟨H0, A0, H, s, fun σ' H' A' s' => q _ _ _ (s'.sls (s'.sl.forget l))⟩
theorem db_to {o' : Out} (h : DB C X M rest F δ o) (q : o = o') : DB C X M rest F δ o' := q ▸ h
theorem db_from (h : DB C X M rest F δ o) (q : δ1 = δ) : DB C X M rest F δ1 o := q ▸ h
theorem ds_to {o' : Out} (h : DS C X M st F δ o) (q : o = o') : DS C X M st F δ o' := q ▸ h
/-! an expression within a state -/
theorem of_DE {d : D} {σ : L2.St} {A H0 A0 H : Hp} {Q : VK} (s : StA X.K C M F H0 A0 H A σ δ) (q : ∀ v H' A', StA X.K C M F H0 A0 H' A' σ δ → Rp X.K C H' v d → Q v A') : teD X.K C F δ d σ A Q :=
  ⟨M, A0, H, s.ha, s.f, s.sl, fun v H' A' n r => q v H' A' (s.nx n) r⟩
theorem dm_of {d : D} (h : DE C X e F δ d) : DM C X M e F δ F d := pe_imp h fun σ A Q ⟨H0, A0, H, s, q⟩ => of_DE s q
theorem dm_ife {k : Bool} {d : D} (hc : DT C X c F δ k) (ha : k = true → DM C X M a F δ F1 d) (hb : k = false → DM C X M b F δ F1 d) : DM C X M (.IfExp c a b pos) F δ F1 d := by
  cases k with
  | true => exact pe_imp (pe_ifExp (tb := fun _ _ _ => False) hc (ha rfl) ⟨fun _ _ _ _ _ _ z => z.elim⟩) fun σ A Q ⟨H0, A0, H, s, q⟩ => ⟨M, A0, H, s.ha, s.f, s.sl, fun H' A' n => ⟨H0, A0, H', s.nx n, q⟩⟩
  | false => exact pe_imp (pe_ifExp (ta := fun _ _ _ => False) hc ⟨fun _ _ _ _ _ _ z => z.elim⟩ (hb rfl)) fun σ A Q ⟨H0, A0, H, s, q⟩ => ⟨M, A0, H, s.ha, s.f, s.sl, fun H' A' n => ⟨H0, A0, H', s.nx n, q⟩⟩
/-! statements -/
theorem ds_set (i : Nat) {x : Str} {d : D} {pos' : Pos} (h : DE C X e F δ d) (hN : X.N.Nodup) (hi : X.N[i]? = some x := by rfl) (hx : Loc X.env.scope x := by first | exact Or.inl rfl | exact Or.inr rfl) (hs : swapsWith e (some (.Name x pos')) pos.line X.env = pure false := by rfl)
    (hf : X.fn x = true ∨ X.env.scope.names.lookup x = some .local := by first | exact .inl rfl | exact .inr rfl) : DS C X M (.Assign [.Name x pos'] e pos) F δ (.nx F (δ.set i (.dat d))) :=
  ps_imp (ps_set hN hi hx h hs hf) fun E σ A ⟨H0, A0, H, s, q⟩ => of_DE s fun v H' A' s' r => q _ _ _ (s'.sls (s'.sl.setD r))
theorem ds_setM (i : Nat) {x : Str} {d : D} {pos' : Pos} (h : DM C X M e F δ F1 d) (hN : X.N.Nodup) (hi : X.N[i]? = some x := by rfl) (hx : Loc X.env.scope x := by first | exact Or.inl rfl | exact Or.inr rfl) (hs : swapsWith e (some (.Name x pos')) pos.line X.env = pure false := by rfl)
    (hf : X.fn x = true ∨ X.env.scope.names.lookup x = some .local := by first | exact .inl rfl | exact .inr rfl) : DS C X M (.Assign [.Name x pos'] e pos) F δ (.nx F1 (δ.set i (.dat d))) :=
  ps_imp (ps_set hN hi hx h hs hf) fun E σ A ⟨H0, A0, H, s, q⟩ => ⟨H0, A0, H, s, fun v H' A' s' r => q _ _ _ (s'.sls (s'.sl.setD r))⟩
/-- a new list's address is nobody's -/
theorem new_apart {K : PySem.W.Frag} {A0 H A : Hp} {σ : L2.St} (s : Slots K C M A0 H A σ δ) {p : Addr} (hp : A p = none) : ∀ (j : Nat) (es : List D), δ[j]? = some (SD.own es) → σ[j]? ≠ some (some (V.ref p)) := fun j es h z => by
  obtain ⟨p', xs, e1, _, h2, _⟩ := s.own h
  rw [z] at e1
  cases e1
  rw [hp] at h2
  cases h2
theorem of_DN {ds : List D} {σ : L2.St} {A H0 A0 H : Hp} {Q : VK} (hM : ∀ b, M b → A0 b ≠ none) (s : StA X.K C M F H0 A0 H A σ δ) (q : ∀ p H' A', StA X.K C M F H0 A0 H' A' σ δ → (∀ i, StA X.K C M F H0 A0 H' A' (σ.set i (some (.ref p))) (δ.set i (.own ds))) → Q (.ref p) A') : teN X.K C F δ ds σ A Q :=
  ⟨M, A0, H, s.ha, s.f, s.sl, fun p xs H' A' n h1 h2 h3 r => q p H' A' (s.nx n) fun i => by
    have h0 : A0 p = none := by
      cases z : A0 p with
      | none => rfl
      | some o => exact absurd h1 (s.at0 p (by rw [z]; exact fun y => by cases y))
    exact (s.nx n).sls ((s.nx n).sl.setN h2 h3 h0 (fun z => hM p z h0) (new_apart s.sl h1) r)⟩
theorem ds_setN (i : Nat) {x : Str} {ds : List D} {pos' : Pos} (h : DN C X e F δ ds) (hN : X.N.Nodup) (hM : ∀ b, ¬ M b := by intro _; exact id) (hi : X.N[i]? = some x := by rfl) (hx : Loc X.env.scope x := by first | exact Or.inl rfl | exact Or.inr rfl) (hs : swapsWith e (some (.Name x pos')) pos.line X.env = pure false := by rfl)
    (hf : X.fn x = true ∨ X.env.scope.names.lookup x = some .local := by first | exact .inl rfl | exact .inr rfl) : DS C X M (.Assign [.Name x pos'] e pos) F δ (.nx F (δ.set i (.own ds))) :=
  ps_imp (ps_set hN hi hx h hs hf) fun E σ A ⟨H0, A0, H, s, q⟩ => of_DN (fun b z => absurd z (hM b)) s fun p H' A' s' s2 => q _ _ _ (s2 i)
theorem ds_ret {d : D} (h : DE C X e F δ d) : DS C X M (.Return (some e) pos) F δ (.rt F d) := ps_imp (ps_ret h) fun E σ A ⟨H0, A0, H, s, q⟩ => of_DE s fun v H' A' s' r => q _ _ _ s'.nil r
theorem ds_retM {d : D} (h : DM C X M e F δ F1 d) : DS C X M (.Return (some e) pos) F δ (.rt F1 d) := ps_imp (ps_ret h) fun E σ A ⟨H0, A0, H, s, q⟩ => ⟨H0, A0, H, s, fun v H' A' s' r => q _ _ _ s'.nil r⟩
/-- return of a list of one's own -/
theorem ds_retO (i : Nat) {x : Str} {ds : List D} {p : Pos} (hi : δ[i]? = some (.own ds) := by rfl) (hN : X.N[i]? = some x := by rfl) (hv : Vis X.env.scope x := by first | exact Or.inl rfl | exact Or.inr (Or.inl rfl) | exact Or.inr (Or.inr rfl)) (hd : (x == ("__debug__" : Str)) = false := by decide)
    (hcd : (x == ("__classdict__" : Str)) = false := by decide) : DS C X M (.Return (some (.Name x p)) pos) F0 δ (.rt F0 (.lst ds)) := ps_imp (ps_ret (pe_var hN hv hd hcd)) fun E σ A ⟨H0, A0, H, s, q⟩ => by
  obtain ⟨a, H', e1, s', r⟩ := s.freeze hi
  exact ⟨.ref a, e1, q _ _ _ s'.nil r⟩
theorem ds_if {k : Bool} {ba bb : List Stmt} (hc : DT C X c F δ k) (ha : k = true → DB C X M ba F δ o) (hb : k = false → DB C X M bb F δ o) : DS C X M (.If c ba bb pos) F δ o := by
  cases k with
  | true =>
    refine ps_imp (ps_if (u := fun _ _ _ => False) hc (ha rfl) ⟨fun _ _ _ _ _ _ z => z.elim⟩) fun E σ A ⟨H0, A0, H, s, q⟩ => ⟨M, A0, H, s.ha, s.f, s.sl, fun H' A' n => ?_⟩
    exact ⟨H0, A0, H', s.nx n, q⟩
  | false =>
    refine ps_imp (ps_if (t := fun _ _ _ => False) hc ⟨fun _ _ _ _ _ _ z => z.elim⟩ (hb rfl)) fun E σ A ⟨H0, A0, H, s, q⟩ => ⟨M, A0, H, s.ha, s.f, s.sl, fun H' A' n => ?_⟩
    exact ⟨H0, A0, H', s.nx n, q⟩
/-- an if that returns, and what comes behind it -/
theorem db_if {k : Bool} {ba : List Stmt} (hc : DT C X c F δ k) (ha : k = true → ∃ F1 d, o = .rt F1 d ∧ DB C X M ba F δ (.rt F1 d)) (hb : k = false → DB C X M rest F δ o) : DB C X M (.If c ba [] pos :: rest) F δ o := by
  cases k with
  | true =>
    obtain ⟨F1, d, rfl, h⟩ := ha rfl
    exact db_ret (ds_if hc (fun _ => h) (fun z => by cases z))
  | false => exact db_cons (ds_if (o := .nx F δ) hc (fun z => by cases z) (fun _ => db_nil)) (hb rfl)
theorem nd_append {σ : L2.St} {A H0 A0 H : Hp} (s : StA X.K C M F0 H0 A0 H A σ δ) {i : Nat} {ds : List D} (hi : δ[i]? = some (.own ds)) : ∃ p xs, σ[i]? = some (some (.ref p)) ∧ A p = some (.lst xs) ∧ RpAll X.K C H xs ds := by
  obtain ⟨p, xs, e1, h1, h2, h3, h4, h5⟩ := s.sl.own hi
  exact ⟨p, xs, e1, h2, h3⟩
/-- x.append(e) -/
theorem ds_append (i : Nat) {x : Str} {ds : List D} {d : D} {p apos : Pos} (h : DE C X e F0 δ d) (hl : ds.length < sizeLine) (hi : δ[i]? = some (.own ds) := by rfl) (hN : X.N[i]? = some x := by rfl) (hv : Vis X.env.scope x := by first | exact Or.inl rfl | exact Or.inr (Or.inl rfl) | exact Or.inr (Or.inr rfl))
    (hse : starEach (e :: []) X.env = (false, eval e X.env) :: starEach [] X.env := by rfl) (hsw : swapsWith (.Call (.Attribute (.Name x p) "append" apos) [e] [] pos) none pos.line X.env = pure false := by rfl)
    (hd : (x == ("__debug__" : Str)) = false := by decide) (hcd : (x == ("__classdict__" : Str)) = false := by decide)
    (hbase : attributeBase (.Name x p) "append" X.env (eval (.Name x p) X.env) = eval (.Name x p) X.env := by rfl)
    (hfew : ((backTo pos (starEach [e] X.env)).all (fun x => !x.1) && (backToKw pos (keywordEach [] X.env)).all (fun x => x.1.isSome)
      && decide (([e] : List Expr).length + ([] : List Keyword).length + (if ([] : List Keyword).isEmpty then 0 else 1) < 30)) = true := by rfl)
    (hline : (apos.endLine == pos.line) = true := by rfl) : DS C X M (.Expr (.Call (.Attribute (.Name x p) "append" apos) [e] [] pos) pos) F0 δ (.nx F0 (δ.set i (.own (ds ++ [d])))) :=
  ps_imp (ps_expr (pe_bm PySem.F.plainAttrs_list PySem.F.slot_list_append PySem.F.type_list_append mt_append (pe_var hN hv hd hcd) (da_cons h da_nil hse) hbase hfew hline hse rfl) hsw) fun E σ A ⟨H0, A0, H, s, q⟩ => by
  obtain ⟨a, xs, e1, e2, e3⟩ := nd_append s hi
  refine ⟨.ref a, e1, .inl ⟨rfl, xs, SqL.of e2⟩, M, A0, H, s.ha, s.f, s.sl, fun vs H' A' n r => ?_⟩
  have s' := s.nx n
  match vs, r with
  | [v], r =>
    simp only [RpAll] at r
    have e2' := n.aa _ _ e2
    exact ⟨a, xs, v, rfl, rfl, e2', by rw [rpAll_len e3]; exact hl, q _ _ _ (s'.mut hi e1 (rpAll_app (rpAll_mono n.hh _ _ e3) (by simp only [RpAll]; exact ⟨r.1, True.intro⟩)))⟩
  | [], r => simp only [RpAll] at r
  | _ :: _ :: _, r => simp only [RpAll] at r; exact r.2.elim
/-- x.extend(e) -/
theorem ds_extend (i : Nat) {x : Str} {ds gs : List D} {p apos : Pos} (h : DE C X e F0 δ (.lst gs)) (hl : ds.length + gs.length ≤ sizeLine) (hi : δ[i]? = some (.own ds) := by rfl) (hN : X.N[i]? = some x := by rfl) (hv : Vis X.env.scope x := by first | exact Or.inl rfl | exact Or.inr (Or.inl rfl) | exact Or.inr (Or.inr rfl))
    (hse : starEach (e :: []) X.env = (false, eval e X.env) :: starEach [] X.env := by rfl) (hsw : swapsWith (.Call (.Attribute (.Name x p) "extend" apos) [e] [] pos) none pos.line X.env = pure false := by rfl)
    (hd : (x == ("__debug__" : Str)) = false := by decide) (hcd : (x == ("__classdict__" : Str)) = false := by decide)
    (hbase : attributeBase (.Name x p) "extend" X.env (eval (.Name x p) X.env) = eval (.Name x p) X.env := by rfl)
    (hfew : ((backTo pos (starEach [e] X.env)).all (fun x => !x.1) && (backToKw pos (keywordEach [] X.env)).all (fun x => x.1.isSome)
      && decide (([e] : List Expr).length + ([] : List Keyword).length + (if ([] : List Keyword).isEmpty then 0 else 1) < 30)) = true := by rfl)
    (hline : (apos.endLine == pos.line) = true := by rfl) : DS C X M (.Expr (.Call (.Attribute (.Name x p) "extend" apos) [e] [] pos) pos) F0 δ (.nx F0 (δ.set i (.own (ds ++ gs)))) :=
  ps_imp (ps_expr (pe_bm PySem.F.plainAttrs_list PySem.F.slot_list_extend PySem.F.type_list_extend mt_extend (pe_var hN hv hd hcd) (da_cons h da_nil hse) hbase hfew hline hse rfl) hsw) fun E σ A ⟨H0, A0, H, s, q⟩ => by
  obtain ⟨a, xs, e1, e2, e3⟩ := nd_append s hi
  refine ⟨.ref a, e1, .inl ⟨rfl, xs, SqL.of e2⟩, M, A0, H, s.ha, s.f, s.sl, fun vs H' A' n r => ?_⟩
  have s' := s.nx n
  match vs, r with
  | [v], r =>
    simp only [RpAll, Rp] at r
    obtain ⟨⟨b, ys, f1, f2, f3⟩, _⟩ := r
    have e2' := n.aa _ _ e2
    exact ⟨a, b, xs, ys, rfl, by rw [f1], e2', n.ha _ _ f2, by rw [rpAll_len e3, rpAll_len f3]; exact hl, q _ _ _ (s'.mut hi e1 (rpAll_app (rpAll_mono n.hh _ _ e3) f3))⟩
  | [], r => simp only [RpAll] at r
  | _ :: _ :: _, r => simp only [RpAll] at r; exact r.2.elim
/-- x[k] = e, a list of one's own -/
theorem ds_setIx (i : Nat) {x : Str} {ds : List D} {d : D} {k : Int} {j : Nat} {p p2 : Pos} (hb : DE C X b F0 δ (.int k)) (h : DE C X e F0 δ d) (hk : ixN ds.length k = some j) (hi : δ[i]? = some (.own ds) := by rfl) (hN : X.N[i]? = some x := by rfl) (hv : Vis X.env.scope x := by first | exact Or.inl rfl | exact Or.inr (Or.inl rfl) | exact Or.inr (Or.inr rfl))
    (hd : (x == ("__debug__" : Str)) = false := by decide) (hcd : (x == ("__classdict__" : Str)) = false := by decide)
    (ha : ∀ v, assign (.Subscript (.Name x p) b p2) X.env v = (do
      let ov ← holding [v] (eval (.Name x p) X.env)
      let iv ← holding [v, ov] (eval b X.env)
      standAt p2
      holding [v, ov, iv] (setItem ov iv v)
      release [v, ov, iv] []) := by intro _; rfl)
    (hs : swapsWithSole [.Subscript (.Name x p) b p2] e pos.line X.env = pure false := by rfl) (hw : swappedStores [.Subscript (.Name x p) b p2] e X.env = pure none := by rfl)
    (h1 : (assignEach [.Subscript (.Name x p) b p2] X.env).map (·.2) = [assign (.Subscript (.Name x p) b p2) X.env] := by rfl) : DS C X M (.Assign [.Subscript (.Name x p) b p2] e pos) F0 δ (.nx F0 (δ.set i (.own (ds.set j d)))) :=
  ps_imp (ps_asg h (pg_sub (pe_var hN hv hd hcd) hb set_list ha) hs hw h1) fun E σ A ⟨H0, A0, H, s, q⟩ => of_DE s fun v H1 A1 s1 r1 => by
  obtain ⟨a, xs, e1, e2, e3⟩ := nd_append s1 hi
  refine ⟨.ref a, e1, of_DE (M := M) (H0 := H1) (A0 := A0) (H := H1) ⟨.refl _, s1.aa, s1.at0, s1.ha, fun b z _ => z, s1.f, s1.sl⟩ fun u H2 A2 s2' r2 => ?_⟩
  have s2 : StA X.K C M F0 H0 A0 H2 A2 σ δ := s1.rebase s2'
  simp only [Rp] at r2
  subst r2
  obtain ⟨a', xs', e1', e2', e3'⟩ := nd_append s2 hi
  rw [e1] at e1'
  cases e1'
  refine ⟨a, xs', k, j, rfl, rfl, e2', by rw [rpAll_len e3']; exact hk, q _ _ _ (s2.mut hi e1 (rpAll_set j e3' (rp_mono s2'.hh _ _ r1)))⟩
/-- x[k] += e, a list of one's own of ints -/
theorem getl : PGet X (rIxL X.K) := fun pins s σ H o i ov iv Q I ro ri h => by
  obtain ⟨p, xs, k, z, rfl, rfl, hq, he, q⟩ := h
  cases ro
  obtain ⟨t, rfl⟩ := ri
  obtain ⟨its, r, pl, hz⟩ := I.list hq
  obtain ⟨j, h1, h2, h3, h4, h5⟩ := atI_get he
  obtain ⟨w, ew, rw'⟩ := r.get h2
  have hl := r.length
  have hn := line63
  have hsz : sizeLine = 16777216 := sizeLine_eq
  have fin : EP X pins σ Q w s := ⟨z, H, I, rw', q⟩
  by_cases h0 : 0 ≤ k
  · have hj : k.toNat = j := by
      rw [seqIndex_of h0 h5] at h1
      exact Option.some.inj h1
    exact wpAny_getItem_list pl.isList h0 (by omega) (by rw [hj]; simpa using ew) fin
  · have hj : (k + (its.toArray.size : Int)).toNat = j := by
      rw [seqIndex_neg (by omega) h4] at h1
      rw [List.size_toArray, ← hl]
      exact Option.some.inj h1
    exact wpAny_getItem_list_neg pl.isList (by omega) (by rw [List.size_toArray] <;> omega) (by omega) (by rw [hj]; simpa using ew) fin
end
end Sw
namespace Sw
open PySem PySem.Spec PyProof.Rows L2
section
variable {C : Addr} {X : Cx} {M : Mt} {F F1 F2 : Fm} {δ δ1 δ2 : List SD} {o : Out} {st : Stmt} {rest body : List Stmt} {a b c e tg iter : Expr} {pos : Pos}
/-- a, b = e1, e2 -/
theorem ds_par (i j : Nat) {x y : Str} {d1 d2 : D} {px py pt : Pos} {kt k2 pt2} (ha : DE C X a F δ d1) (hb : DE C X b F δ d2) (hN : X.N.Nodup) (hi : X.N[i]? = some x := by rfl) (hj : X.N[j]? = some y := by rfl) (hij : i ≠ j := by decide) (hc : X.calm = true := by rfl)
    (hx : X.env.scope.names.lookup x = some .local := by rfl) (hy : X.env.scope.names.lookup y = some .local := by rfl) (hse : starEach (a :: [b]) X.env = (false, eval a X.env) :: starEach [b] X.env := by rfl) (hse2 : starEach (b :: []) X.env = (false, eval b X.env) :: starEach [] X.env := by rfl)
    (hw : swappedStores [.Tuple [.Name x px, .Name y py] kt pt] (.Tuple [a, b] k2 pt2) X.env = pure (some [x, y]) := by rfl)
    (hs : swapsWithSole [.Tuple [.Name x px, .Name y py] kt pt] (.Tuple [a, b] k2 pt2) pos.line X.env = pure false := by rfl) :
    DS C X M (.Assign [.Tuple [.Name x px, .Name y py] kt pt] (.Tuple [a, b] k2 pt2) pos) F δ (.nx F ((δ.set i (.dat d1)).set j (.dat d2))) :=
  ps_imp (ps_par hc hN hi hj hij hx hy (da_cons ha (da_cons hb da_nil hse2) hse) hw hs) fun E σ A ⟨H0, A0, H, s, q⟩ => ⟨M, A0, H, s.ha, s.f, s.sl, fun vs H' A' n r => by
    match vs, r with
    | [v, u], r =>
      simp only [RpAll] at r
      have s' := s.nx n
      exact ⟨v, u, rfl, q _ _ _ (s'.sls ((s'.sl.setD (i := i) r.1).setD (i := j) r.2.1))⟩
    | [], r => simp only [RpAll] at r
    | [_], r => simp only [RpAll] at r; exact r.2.elim
    | _ :: _ :: _ :: _, r => simp only [RpAll] at r; exact r.2.2.elim⟩
/-- found, x = [], e : the first a new list of one's own, the second data -/
theorem ds_parN (i j : Nat) {x y : Str} {es1 : List D} {d2 : D} {px py pt : Pos} {kt k2 pt2} (ha : DN C X a F δ es1) (hb : DE C X b F δ d2) (hN : X.N.Nodup) (hM : ∀ b, ¬ M b := by intro _; exact id) (hi : X.N[i]? = some x := by rfl) (hj : X.N[j]? = some y := by rfl) (hij : i ≠ j := by decide) (hc : X.calm = true := by rfl)
    (hx : X.env.scope.names.lookup x = some .local := by rfl) (hy : X.env.scope.names.lookup y = some .local := by rfl) (hse : starEach (a :: [b]) X.env = (false, eval a X.env) :: starEach [b] X.env := by rfl) (hse2 : starEach (b :: []) X.env = (false, eval b X.env) :: starEach [] X.env := by rfl)
    (hw : swappedStores [.Tuple [.Name x px, .Name y py] kt pt] (.Tuple [a, b] k2 pt2) X.env = pure (some [x, y]) := by rfl)
    (hs : swapsWithSole [.Tuple [.Name x px, .Name y py] kt pt] (.Tuple [a, b] k2 pt2) pos.line X.env = pure false := by rfl) :
    DS C X M (.Assign [.Tuple [.Name x px, .Name y py] kt pt] (.Tuple [a, b] k2 pt2) pos) F δ (.nx F ((δ.set i (.own es1)).set j (.dat d2))) :=
  ps_imp (ps_par hc hN hi hj hij hx hy (pa_cons ha (pa_cons hb pa_nil hse2) hse) hw hs) fun E σ A ⟨H0, A0, H, s, q⟩ => by
    refine (?_ : tCons (teN X.K C F δ es1) (tCons (teD X.K C F δ d2) tNil) σ A _)
    refine (of_DN (fun b z => absurd z (hM b)) s fun p H1 A1 s1 s2 => ?_ : teN X.K C F δ es1 σ A _)
    refine ⟨M, A0, H1, s1.ha, s1.f, s1.sl, fun u H2 A2 n2 r2 => ?_⟩
    have s3 := (s2 i).nx n2
    exact ⟨_, _, rfl, q _ _ _ (s3.sls (s3.sl.setD (i := j) r2))⟩
/-- x, found = e, [] : the second a new list of one's own -/
theorem ds_parN2 (i j : Nat) {x y : Str} {es2 : List D} {d1 : D} {px py pt : Pos} {kt k2 pt2} (ha : DE C X a F δ d1) (hb : DN C X b F δ es2) (hN : X.N.Nodup) (hM : ∀ b, ¬ M b := by intro _; exact id) (hi : X.N[i]? = some x := by rfl) (hj : X.N[j]? = some y := by rfl) (hij : i ≠ j := by decide) (hc : X.calm = true := by rfl)
    (hx : X.env.scope.names.lookup x = some .local := by rfl) (hy : X.env.scope.names.lookup y = some .local := by rfl) (hse : starEach (a :: [b]) X.env = (false, eval a X.env) :: starEach [b] X.env := by rfl) (hse2 : starEach (b :: []) X.env = (false, eval b X.env) :: starEach [] X.env := by rfl)
    (hw : swappedStores [.Tuple [.Name x px, .Name y py] kt pt] (.Tuple [a, b] k2 pt2) X.env = pure (some [x, y]) := by rfl)
    (hs : swapsWithSole [.Tuple [.Name x px, .Name y py] kt pt] (.Tuple [a, b] k2 pt2) pos.line X.env = pure false := by rfl) :
    DS C X M (.Assign [.Tuple [.Name x px, .Name y py] kt pt] (.Tuple [a, b] k2 pt2) pos) F δ (.nx F ((δ.set i (.dat d1)).set j (.own es2))) :=
  ps_imp (ps_par hc hN hi hj hij hx hy (pa_cons ha (pa_cons hb pa_nil hse2) hse) hw hs) fun E σ A ⟨H0, A0, H, s, q⟩ => by
    refine (?_ : tCons (teD X.K C F δ d1) (tCons (teN X.K C F δ es2) tNil) σ A _)
    refine (of_DE s fun v H1 A1 s1 r1 => ?_ : teD X.K C F δ d1 σ A _)
    have rb : StA X.K C M F H1 A0 H1 A1 σ δ := ⟨.refl _, s1.aa, s1.at0, s1.ha, fun b z1 z2 => z1, s1.f, s1.sl⟩
    refine (of_DN (fun b z => absurd z (hM b)) rb fun p H2 A2 s2' s3 => ?_ : teN X.K C F δ es2 σ A1 _)
    have s4 := s3 j
    have s5 := s4.sls (s4.sl.setD (i := i) (rp_mono s2'.hh _ _ r1))
    rw [List.set_comm _ _ hij.symm, List.set_comm (SD.own es2) (SD.dat d1) hij.symm] at s5
    exact ⟨_, _, rfl, q _ _ _ (s1.rebase s5)⟩
/-- x += e, ints -/
theorem ds_aug (i : Nat) {x : Str} {n m : Int} {pos' : Pos} (h : DE C X e F δ (.int m)) (hN : X.N.Nodup) (hδ : δ[i]? = some (.dat (.int n)) := by rfl) (hi : X.N[i]? = some x := by rfl) (hx : Loc X.env.scope x := by first | exact Or.inl rfl | exact Or.inr rfl)
    (hf : X.fn x = true ∨ X.env.scope.names.lookup x = some .local := by first | exact .inl rfl | exact .inr rfl) : DS C X M (.AugAssign (.Name x pos') .Add e pos) F δ (.nx F (δ.set i (.dat (.int (n + m))))) :=
  ps_imp (ps_aug hN hi hx h ip_add hf) fun E σ A ⟨H0, A0, H, s, q⟩ => by
    obtain ⟨v, e1, r⟩ := s.sl.dat hδ
    simp only [Rp] at r
    subst r
    refine ⟨.int n, e1, of_DE s fun u H' A' s' r' => ?_⟩
    simp only [Rp] at r'
    exact ⟨n, m, rfl, r', q _ _ _ (s'.sls (s'.sl.setD (by simp only [Rp])))⟩
/-- x[k] += e, a list of one's own, ints -/
theorem ds_augIx (i : Nat) {x : Str} {ds : List D} {n m k : Int} {j : Nat} {p tpos : Pos} (hb : DE C X b F0 δ (.int k)) (h : DE C X e F0 δ (.int m)) (hk : ixN ds.length k = some j) (hn : ds[j]? = some (.int n)) (hi : δ[i]? = some (.own ds) := by rfl) (hN : X.N[i]? = some x := by rfl) (hv : Vis X.env.scope x := by first | exact Or.inl rfl | exact Or.inr (Or.inl rfl) | exact Or.inr (Or.inr rfl))
    (hd : (x == ("__debug__" : Str)) = false := by decide) (hcd : (x == ("__classdict__" : Str)) = false := by decide)
    (ha : ∀ ov iv new, augStore b ov iv new = (do holding [new, ov, iv] (setItem ov iv new); release [new, ov, iv] []; pure .next) := by intros; rfl) : DS C X M (.AugAssign (.Subscript (.Name x p) b tpos) .Add e pos) F0 δ (.nx F0 (δ.set i (.own (ds.set j (.int (n + m)))))) :=
  ps_imp (ps_augS (pe_var hN hv hd hcd) hb getl h ip_add set_list ha) fun E σ A ⟨H0, A0, H, s, q⟩ => by
  obtain ⟨a, xs, e1, e2, e3⟩ := nd_append s hi
  refine ⟨.ref a, e1, of_DE s fun u H1 A1 s1 r1 => ?_⟩
  simp only [Rp] at r1
  subst r1
  obtain ⟨a1, xs1, f1, f2, f3⟩ := nd_append s1 hi
  rw [e1] at f1; cases f1
  obtain ⟨z, z1, z2⟩ := rpAll_get f3 hn
  simp only [Rp] at z2
  subst z2
  refine ⟨a, xs1, k, .int n, rfl, rfl, SqL.of f2, ?_, of_DE s1 fun u H2 A2 s2 r2 => ?_⟩
  · unfold atI
    rw [rpAll_len f3, hk]
    exact z1
  · simp only [Rp] at r2
    obtain ⟨a2, xs2, g1, g2, g3⟩ := nd_append s2 hi
    rw [e1] at g1; cases g1
    exact ⟨n, m, rfl, r2, a, xs2, k, j, rfl, rfl, g2, by rw [rpAll_len g3]; exact hk, q _ _ _ (s2.mut hi e1 (rpAll_set j g3 (by simp only [Rp])))⟩
/-! ### targets -/
def tgD (K : PySem.W.Frag) (C : Addr) (M : Mt) (F : Fm) (δ : List SD) (d : D) (δ' : List SD) : TG := fun v σ A Q => ∃ H0 A0 H, StA K C M F H0 A0 H A σ δ ∧ Rp K C H v d ∧ ∀ σ', StA K C M F H0 A0 H A σ' δ' → Q σ' A
def DG (C : Addr) (X : Cx) (M : Mt) (tg : Expr) (F : Fm) (δ : List SD) (d : D) (δ' : List SD) : Prop := PG X tg (tgD X.K C M F δ d δ')
theorem pg_imp {X : Cx} {e : Expr} {t t' : TG} (h : PG X e t) (i : ∀ v σ A Q, t' v σ A Q → t v σ A Q) : PG X e t' := ⟨fun pins s σ H v u Q I r q => h.run pins s σ H v u Q I r (i v σ H Q q)⟩
theorem dg_name (i : Nat) {x : Str} {d : D} (hN : X.N.Nodup) (hi : X.N[i]? = some x := by rfl) (hx : Loc X.env.scope x := by first | exact Or.inl rfl | exact Or.inr rfl) (hf : X.fn x = true ∨ X.env.scope.names.lookup x = some .local := by first | exact .inl rfl | exact .inr rfl) :
    DG C X M (.Name x pos) F δ d (δ.set i (.dat d)) := pg_imp (pg_name hN hi hx hf) fun v σ A Q ⟨H0, A0, H, s, r, q⟩ => q _ (s.sls (s.sl.setD r))
/-- several targets -/
def tgsD (K : PySem.W.Frag) (C : Addr) (M : Mt) (F : Fm) (δ : List SD) (ds : List D) (δ' : List SD) : TGs := fun vs σ A Q => ∃ H0 A0 H, StA K C M F H0 A0 H A σ δ ∧ RpAll K C H vs ds ∧ ∀ σ', StA K C M F H0 A0 H A σ' δ' → Q σ' A
def DGs (C : Addr) (X : Cx) (M : Mt) (ts : List Expr) (F : Fm) (δ : List SD) (ds : List D) (δ' : List SD) : Prop := PGs X ts (tgsD X.K C M F δ ds δ')
theorem pgs_imp {X : Cx} {e : List Expr} {t t' : TGs} (h : PGs X e t) (i : ∀ v σ A Q, t' v σ A Q → t v σ A Q) : PGs X e t' := ⟨fun pins s σ H v u Q I r q => h.run pins s σ H v u Q I r (i v σ H Q q)⟩
theorem dgs_nil : DGs C X M [] F δ [] δ := pgs_imp pgs_nil fun vs σ A Q ⟨H0, A0, H, s, r, q⟩ => by
  match vs, r with
  | [], r => exact ⟨rfl, q _ s⟩
  | _ :: _, r => simp only [RpAll] at r
theorem dgs_cons {t : Expr} {ts : List Expr} {d : D} {ds : List D} (h1 : DG C X M t F δ d δ1) (h2 : DGs C X M ts F δ1 ds δ2) (hs : (assignEach (t :: ts) X.env).map (·.2) = assign t X.env :: (assignEach ts X.env).map (·.2) := by rfl) : DGs C X M (t :: ts) F δ (d :: ds) δ2 :=
  pgs_imp (pgs_cons h1 h2 hs) fun vs σ A Q ⟨H0, A0, H, s, r, q⟩ => by
  match vs, r with
  | [], r => simp only [RpAll] at r
  | v :: vs, r =>
    simp only [RpAll] at r
    exact ⟨v, vs, rfl, H0, A0, H, s, r.1, fun σ' s' => ⟨H0, A0, H, s', r.2, q⟩⟩
theorem dg_tup {es : List Expr} {k n : Nat} {ds : List D} (h : DGs C X M es F δ ds δ1) (hl : ds.length = n := by rfl) (hc : X.calm = true := by rfl) (hn : (assignEach es X.env).length = n := by rfl) (hst : (assignEach es X.env).findIdx? (·.1) = none := by rfl) : DG C X M (.Tuple es k pos) F δ (.tup ds) δ1 :=
  pg_imp (pg_tup hc h hn hst) fun v σ A Q ⟨H0, A0, H, s, r, q⟩ => by
  simp only [Rp] at r
  obtain ⟨a, xs, e1, e2, e3⟩ := r
  exact ⟨a, xs, e1, sqt_mono s.ha e2, by rw [rpAll_len e3]; exact hl, H0, A0, H, s, e3, q⟩
/-- target = e -/
theorem ds_asg {d : D} (h : DE C X e F δ d) (hg : DG C X M tg F δ d δ1) (hs : swapsWithSole [tg] e pos.line X.env = pure false := by rfl) (hw : swappedStores [tg] e X.env = pure none := by rfl)
    (h1 : (assignEach [tg] X.env).map (·.2) = [assign tg X.env] := by rfl) : DS C X M (.Assign [tg] e pos) F δ (.nx F δ1) :=
  ps_imp (L2.ps_asg h hg hs hw h1) fun E σ A ⟨H0, A0, H, s, q⟩ => of_DE s fun v H' A' s' r => ⟨H0, A0, H', s', r, fun σ' s2 => q _ _ _ s2⟩
/-! ### comprehension as a statement of its own -/
section
variable {elt : Expr} {scope : Scope} {py spos : Pos}
theorem ds_setLcN (i : Nat) {y : Str} {t : Nat} {n : Str} {ds es : List D} (hi : DI C X tg iter F δ ds) (ok : BlkOk X.N X.env.scope scope [(n, t)]) (hN : X.N.Nodup)
    (hg : ∀ (s : Shared) (H : Hp) (C' : Addr) (cl : List (Str × Addr)) (fp : List Addr), PG (X.blk s H scope (compEnvC scope cl C' X.env) fp) tg (gName t)) (hl : es.length = ds.length) (hz : ds.length ≤ sizeLine)
    (he : ∀ (k : Nat) (d e : D), ds[k]? = some d → es[k]? = some e → ∀ (s : Shared) (H : Hp) (C' : Addr) (cl : List (Str × Addr)) (fp : List Addr), DE C (X.blk s H scope (compEnvC scope cl C' X.env) fp) elt F (δ.set t (.dat d)) e)
    (hM : ∀ b, ¬ M b := by intro _; exact id) (hc : X.calm = true := by rfl) (hy : X.N[i]? = some y := by rfl) (hyl : X.env.scope.names.lookup y = some .local := by rfl)
    (hsw : swapsWith (.ListComp elt [⟨tg, iter, [], 0⟩] scope pos) (some (.Name y py)) spos.line X.env = pure true := by exact sw_true rfl rfl rfl (by decide +kernel))
    (hs : ∀ x, foldedSetIterable iter X.env x = pure x := by intro _; rfl) : DS C X M (.Assign [.Name y py] (.ListComp elt [⟨tg, iter, [], 0⟩] scope pos) spos) F δ (.nx F (δ.set i (.own es))) := by
  refine ps_imp (ps_setLc (own := [(n, t)]) (te := fun σ A Q => ∃ k d e, ds[k]? = some d ∧ es[k]? = some e ∧ teD X.K C F (δ.set t (.dat d)) e σ A Q) hc hN hy hyl hsw hi ok hg (fun _ _ _ _ _ => pts_nil) (fun s H C' cl fp => ⟨fun pins s2 σ H2 Q I ⟨k, d, e, h1, h2, h3⟩ => (he k d e h1 h2 s H C' cl fp).run pins s2 σ H2 Q I h3⟩) hs) fun E σ A ⟨H0, A0, H, s, q⟩ => ?_
  refine lc_readG hl hz (fun k d e hd he' M A0 H A x ha ff s r R hR => ?_) (of_DN (fun b z => absurd z (hM b)) s fun p H' A' s' s2 => q _ _ _ (s2 i))
  refine ⟨?_, k, d, e, hd, he', M, A0, H, ha, ff, ?_, hR⟩
  · show ((σ.set t none).set t (some x)).set t none = σ.set t none
    rw [List.set_set, List.set_set]
  · show Slots X.K C M A0 H A ((σ.set t none).set t (some x)) (δ.set t (.dat d))
    rw [List.set_set]
    exact s.setD r
end
/-! ### loops -/
theorem passN {X : Cx} : PassesOwn (model X.prog X.w) X.A X.env X.xe ∨ True := .inr True.intro
/-- for: the state by the turn -/
theorem ds_for {ds : List D} (Fi : Nat → Fm) (δi δa δb : Nat → List SD) (hi : DI C X tg iter (Fi 0) (δi 0) ds) (hg : ∀ (k : Nat) d, ds[k]? = some d → DG C X M tg (Fi k) (δi k) d (δa k)) (hb : ∀ (k : Nat) d, ds[k]? = some d → DB C X M body (Fi k) (δa k) (.nx (Fi (k + 1)) (δb k))) (hl : ∀ k, k < ds.length → SLe (δb k) (δi (k + 1)))
    (hp : PassesOwn (model X.prog X.w) X.A X.env X.xe) (hc : X.calm = true := by rfl) (hs : ∀ x, foldedSetIterable iter X.env x = pure x := by intro _; rfl) : DS C X M (.For tg iter body [] pos) (Fi 0) (δi 0) (.nx (Fi ds.length) (δi ds.length)) := by
  refine ps_imp (ps_for (g := fun v σ A Q => ∃ k d, ds[k]? = some d ∧ tgD X.K C M (Fi k) (δi k) d (δa k) v σ A Q) (tb := fun E σ A => ∃ k d, ds[k]? = some d ∧ tsD X.K C M (Fi k) (δa k) (.nx (Fi (k + 1)) (δb k)) E σ A) hp hc hi
    ⟨fun pins s σ H v u Q I r ⟨k, d, hd, q⟩ => (hg k d hd).run pins s σ H v u Q I r q⟩ ⟨fun pins s σ H E I ⟨k, d, hd, q⟩ => (hb k d hd).run pins s σ H E I q⟩ hs) fun E σ A ⟨H0, A0, H, s, q⟩ => ⟨M, A0, H, s.ha, s.f, s.sl, fun J H1 A1 n1 wk => ?_⟩
  have s1 := s.nx n1
  refine ⟨fun i m σ2 A2 => m = ds.length - i ∧ i ≤ ds.length ∧ ∃ H2, StA X.K C M (Fi i) H1 A0 H2 A2 σ2 (δi i), ⟨ds.length, by simp, Nat.zero_le _, H1, s1.tobase (.refl _) s1⟩, ?_⟩
  rintro i m σ2 A2 ⟨rfl, hi', H2, s2⟩
  by_cases hlt : i < ds.length
  · refine .inr ⟨wk.go i A2 (s2.hh.trans s2.ha) hlt, fun σ3 A3 => ∃ H3, StA X.K C M (Fi (i + 1)) H1 A0 H3 A3 σ3 (δi (i + 1)), fun σ3 A3 h => ⟨ds.length - (i + 1), by omega, rfl, hlt, h⟩, fun x A3 hy => ?_⟩
    obtain ⟨d, hd⟩ : ∃ d, ds[i]? = some d := ⟨_, List.getElem?_eq_getElem hlt⟩
    obtain ⟨H3, n3, r3⟩ := wk.yld i d A2 H2 x A3 s2.hh s2.ha hd hy
    have s3 := s2.nx n3
    refine ⟨i, d, hd, H1, A0, H3, s3, r3, fun σ4 s4 => ⟨i, d, hd, H1, A0, H3, s4, fun σ5 H5 A5 s5 => ⟨H5, s5.sls (s5.sl.forget (hl i hlt))⟩⟩⟩
  · have e : i = ds.length := by omega
    subst e
    exact .inl ⟨wk.stop A2 (s2.hh.trans s2.ha), q _ _ _ (s1.rebase s2)⟩
/-- for: a return at turn j -/
theorem ds_forR {ds : List D} {j : Nat} {d : D} (Fi : Nat → Fm) (δi δa δb : Nat → List SD) (hj : j < ds.length) (hi : DI C X tg iter (Fi 0) (δi 0) ds) (hg : ∀ (k : Nat) d, ds[k]? = some d → DG C X M tg (Fi k) (δi k) d (δa k)) (hb : ∀ (k : Nat) d, ds[k]? = some d → k < j → DB C X M body (Fi k) (δa k) (.nx (Fi (k + 1)) (δb k))) (hr : ∀ e, ds[j]? = some e → DB C X M body (Fi j) (δa j) (.rt F1 d)) (hl : ∀ k, k < j → SLe (δb k) (δi (k + 1)))
    (hp : PassesOwn (model X.prog X.w) X.A X.env X.xe) (hc : X.calm = true := by rfl) (hs : ∀ x, foldedSetIterable iter X.env x = pure x := by intro _; rfl) : DS C X M (.For tg iter body [] pos) (Fi 0) (δi 0) (.rt F1 d) := by
  refine ps_imp (ps_for (g := fun v σ A Q => ∃ k d, ds[k]? = some d ∧ tgD X.K C M (Fi k) (δi k) d (δa k) v σ A Q) (tb := fun E σ A => (∃ k d, ds[k]? = some d ∧ k < j ∧ tsD X.K C M (Fi k) (δa k) (.nx (Fi (k + 1)) (δb k)) E σ A) ∨ tsD X.K C M (Fi j) (δa j) (.rt F1 d) E σ A) hp hc hi
    ⟨fun pins s σ H v u Q I r ⟨k, d, hd, q⟩ => (hg k d hd).run pins s σ H v u Q I r q⟩ ⟨fun pins s σ H E I h => by
      rcases h with ⟨k, d, hd, hk, q⟩ | q
      · exact (hb k d hd hk).run pins s σ H E I q
      · exact (hr _ (List.getElem?_eq_getElem hj)).run pins s σ H E I q⟩ hs) fun E σ A ⟨H0, A0, H, s, q⟩ => ⟨M, A0, H, s.ha, s.f, s.sl, fun J H1 A1 n1 wk => ?_⟩
  have s1 := s.nx n1
  refine ⟨fun i m σ2 A2 => m = ds.length - i ∧ i ≤ j ∧ ∃ H2, StA X.K C M (Fi i) H1 A0 H2 A2 σ2 (δi i), ⟨ds.length, by simp, Nat.zero_le _, H1, s1.tobase (.refl _) s1⟩, ?_⟩
  rintro i m σ2 A2 ⟨rfl, hi', H2, s2⟩
  have hlt : i < ds.length := by omega
  refine .inr ⟨wk.go i A2 (s2.hh.trans s2.ha) hlt, fun σ3 A3 => i < j ∧ ∃ H3, StA X.K C M (Fi (i + 1)) H1 A0 H3 A3 σ3 (δi (i + 1)), fun σ3 A3 h => ⟨ds.length - (i + 1), by omega, rfl, by omega, h.2⟩, fun x A3 hy => ?_⟩
  obtain ⟨d', hd⟩ : ∃ d, ds[i]? = some d := ⟨_, List.getElem?_eq_getElem hlt⟩
  obtain ⟨H3, n3, r3⟩ := wk.yld i d' A2 H2 x A3 s2.hh s2.ha hd hy
  have s3 := s2.nx n3
  refine ⟨i, d', hd, H1, A0, H3, s3, r3, fun σ4 s4 => ?_⟩
  by_cases hij : i < j
  · exact .inl ⟨i, d', hd, hij, H1, A0, H3, s4, fun σ5 H5 A5 s5 => ⟨hij, H5, s5.sls (s5.sl.forget (hl i hij))⟩⟩
  · have e : i = j := by omega
    subst e
    exact .inr ⟨H1, A0, H3, s4, fun v H5 A5 s5 r5 => q v H5 A5 (s1.rebase s5) r5⟩
/-- while: n turns -/
theorem ds_while (n : Nat) (Fi : Nat → Fm) (δi δb : Nat → List SD) (hc : ∀ k, k ≤ n → DT C X c (Fi k) (δi k) (decide (k < n))) (hb : ∀ k, k < n → DB C X M body (Fi k) (δi k) (.nx (Fi (k + 1)) (δb k))) (hl : ∀ k, k < n → SLe (δb k) (δi (k + 1))) (hp : PassesOwn (model X.prog X.w) X.A X.env X.xe) : DS C X M (.While c body [] pos) (Fi 0) (δi 0) (.nx (Fi n) (δi n)) := by
  refine ps_imp (ps_while (tc := fun σ A Q => ∃ k, k ≤ n ∧ ttD X.K C (Fi k) (δi k) (decide (k < n)) σ A Q) (tb := fun E σ A => ∃ k, k < n ∧ tsD X.K C M (Fi k) (δi k) (.nx (Fi (k + 1)) (δb k)) E σ A) hp
    ⟨fun pins s σ H Q I ⟨k, hk, q⟩ => (hc k hk).run pins s σ H Q I q⟩ ⟨fun pins s σ H E I ⟨k, hk, q⟩ => (hb k hk).run pins s σ H E I q⟩) fun E σ A ⟨H0, A0, H, s, q⟩ => ?_
  refine ⟨fun m σ2 A2 => m ≤ n ∧ ∃ H2, StA X.K C M (Fi (n - m)) H0 A0 H2 A2 σ2 (δi (n - m)), ⟨n, Nat.le_refl _, H, by rw [Nat.sub_self]; exact s⟩, ?_⟩
  rintro m σ2 A2 ⟨hm, H2, s2⟩
  refine ⟨n - m, by omega, M, A0, H2, s2.ha, s2.f, s2.sl, fun H3 A3 n3 => ?_⟩
  have s3 := s2.nx n3
  by_cases h0 : m = 0
  · subst h0
    have : decide (n - 0 < n) = false := by simp
    rw [this]
    exact q _ _ _ s3
  · have : decide (n - m < n) = true := by simp; omega
    rw [this]
    refine ⟨fun σ' A' => ∃ H4, StA X.K C M (Fi (n - m + 1)) H0 A0 H4 A' σ' (δi (n - m + 1)), fun σ' A' ⟨H4, s4⟩ => ⟨m - 1, by omega, by omega, H4, ?_⟩, n - m, by omega, H0, A0, H3, s3, fun σ' H4 A4 s4 => ⟨H4, s4.sls (s4.sl.forget (hl _ (by omega)))⟩⟩
    have e : n - (m - 1) = n - m + 1 := by omega
    rw [e]
    exact s4
end
/-! ### a pure def by its body -/
theorem slots_start {K : PySem.W.Frag} {C : Addr} {H A : Hp} {M : Mt} : ∀ {vs : List V} {ds : List D} (n : Nat), RpAll K C H vs ds → Slots K C M A H A (vs.map some ++ List.replicate n none) (ds.map SD.dat ++ List.replicate n .un) := fun {vs ds} n r => by
  have hl := rpAll_len r
  refine ⟨by simp [hl], fun i t ht => ?_, fun i j gs es p hij h1 h2 => ?_⟩
  · by_cases hi : i < ds.length
    · rw [List.getElem?_append_left (by simpa using hi), List.getElem?_map] at ht
      obtain ⟨d, hd, rfl⟩ := Option.map_eq_some_iff.mp ht
      obtain ⟨v, hv, rv⟩ := rpAll_get r hd
      rw [List.getElem?_append_left (by simp; omega), List.getElem?_map, hv]
      exact rv
    · rw [List.getElem?_append_right (by simp; omega), List.getElem?_replicate] at ht
      split at ht
      · cases ht
        cases ((vs.map some ++ List.replicate n none)[i]?).getD none <;> exact True.intro
      · cases ht
  · by_cases hi : i < ds.length
    · rw [List.getElem?_append_left (by simpa using hi), List.getElem?_map] at h1
      obtain ⟨d, _, h⟩ := Option.map_eq_some_iff.mp h1
      cases h
    · rw [List.getElem?_append_right (by simp; omega), List.getElem?_replicate] at h1
      split at h1 <;> cases h1
section
variable {P : Program} {w : World} {K : PySem.W.Frag} {mg : Str → Option Value} {base : Heap} {C : Addr}
theorem pure_def {x qual : Str} {st : Stmt} {f : Addr} {fd : FuncData} {N ps : List Str} {k : Nat} {R : List D → D → Prop} (G : Fun K x qual st f fd) (S : FnScope N ps (defScope st)) (len : ∀ ds d, R ds d → ds.length = ps.length)
    (hbody : ∀ (cdv : Value) (A : Around) (outer : List Env) (s : Shared) (H : Hp) (E : XK), Room k (A.deeper (envOfC qual (defScope st) s.heap.objs.size f cdv)) →
      ∀ ds d, R ds d → DB C (cxOf CX0 P w K mg base N qual (defScope st) f cdv A outer s H E).nox M0 (defBody st) F0 (ds.map SD.dat ++ List.replicate (N.length - ds.length) .un) (.rt F0 d)) : FnOk P w K mg base CX0 (k + 1) f fd ps (spD K C R) := by
  refine G.ok S (fun vs H Q E h => ?_) (fun cdv A outer s A1 vs Q E hr h => ?_)
  · obtain ⟨H, ds, d, _, r, hR, _⟩ := h
    rw [rpAll_len r]
    exact len ds d hR
  · obtain ⟨H, ds, d, ex, r, hR, q⟩ := h
    refine ⟨_, hbody cdv A outer s A1 E hr ds d hR, ?_⟩
    refine ⟨H, A1, H, ⟨.refl _, fun b o z _ => z, fun b z => z, ex, fun b z _ => z, True.intro, ?_⟩, fun v H' A' s' r' => q v H' A' ⟨s'.hh, fun b o z => s'.aa b o z id, s'.ha, s'.sep⟩ r'⟩
    have := slots_start (M := M0) (A := A1) (N.length - vs.length) r
    unfold L2.start
    rw [rpAll_len r] at this ⊢
    exact this
end
end Sw
namespace Sw
open PySem PySem.Spec PyProof.Rows L2
def top (i : Nat) : Stmt := PySem.Challenge.pw_shapewatch_s01_answers.main.body.getD i (.Pass ⟨0, 0, 0, 0⟩)
/-! ### greatest common divisors -/
def euc : Nat → Nat × Nat → Nat × Nat
  | 0, p => p
  | k + 1, p => euc k (p.2, p.1 % p.2)
theorem euc_succ : ∀ (k : Nat) (p : Nat × Nat), euc (k + 1) p = ((euc k p).2, (euc k p).1 % (euc k p).2)
  | 0, _ => rfl
  | k + 1, p => euc_succ k (p.2, p.1 % p.2)
theorem euc_ends : ∀ (b a : Nat), ∃ n, (∀ k, k < n → 0 < (euc k (a, b)).2) ∧ (euc n (a, b)).2 = 0 ∧ (euc n (a, b)).1 = Nat.gcd a b := by
  intro b
  induction b using Nat.strongRecOn with
  | ind b ih =>
    intro a
    by_cases h : b = 0
    · subst h
      exact ⟨0, fun k hk => absurd hk (Nat.not_lt_zero _), rfl, by simp [euc]⟩
    · obtain ⟨n, h1, h2, h3⟩ := ih (a % b) (Nat.mod_lt _ (by omega)) b
      refine ⟨n + 1, fun k hk => ?_, h2, ?_⟩
      · cases k with
        | zero => exact (by show 0 < b; omega)
        | succ k => exact h1 k (by omega)
      · show (euc n (b, a % b)).1 = _
        rw [h3, Nat.gcd_comm b, ← Nat.gcd_rec, Nat.gcd_comm]
def R_common : List D → D → Prop := fun ds d => ∃ a b : Nat, ds = [.int a, .int b] ∧ d = .int (Nat.gcd a b : Nat)
/-- a fraction in lowest terms -/
def frD (q : Rat) : D := .tup [.int q.num, .int q.den]
def mkQ (a b : Int) : Rat := (a : Rat) / (b : Rat)
def R_lowest : List D → D → Prop := fun ds d => ∃ (a b : Int), ds = [.int a, .int b] ∧ 0 < b ∧ b.natAbs < 2 ^ 8000 ∧ d = frD (mkQ a b)
theorem mkQ_num {a b : Int} (h : 0 < b) : (mkQ a b).num = a / ((Nat.gcd a.natAbs b.natAbs : Nat) : Int) := by
  unfold mkQ
  rw [← Rat.divInt_eq_div, Rat.num_divInt, Int.sign_eq_one_of_pos h, Int.one_mul, Int.gcd_comm]
  rfl
theorem mkQ_den {a b : Int} (h : 0 < b) : (((mkQ a b).den : Nat) : Int) = b / ((Nat.gcd a.natAbs b.natAbs : Nat) : Int) := by
  unfold mkQ
  rw [← Rat.divInt_eq_div, Rat.den_divInt, if_neg (by omega), Int.gcd_comm]
  rw [Int.natCast_ediv, Int.natAbs_of_nonneg (by omega)]
  rfl
section
variable {P : Program} {w : World} {K : PySem.W.Frag} {mg : Str → Option Value} {base : Heap} {C : Addr} {f : Addr} {fd : FuncData}
abbrev sCommon : Stmt := top 2
theorem scCommon : FnScope ["one", "other"] ["one", "other"] (defScope sCommon) := ⟨rfl, rfl, rfl, by decide +kernel, rfl, by decide +kernel, by decide +kernel⟩
theorem ok_common (G : Fun K "common" "common" sCommon f fd) : FnOk P w K mg base CX0 1 f fd ["one", "other"] (spD K C R_common) := by
  refine pure_def G scCommon (fun ds d ⟨a, b, h, _⟩ => by rw [h]; rfl) fun cdv A outer s H E hr ds d h => ?_
  obtain ⟨a, b, rfl, rfl⟩ := h
  obtain ⟨n, h1, h2, h3⟩ := euc_ends b a
  refine db_cons (ds_while n (fun _ => F0) (fun k => [.dat (.int ((euc k (a, b)).1 : Nat)), .dat (.int ((euc k (a, b)).2 : Nat))]) (fun k => [.dat (.int ((euc (k + 1) (a, b)).1 : Nat)), .dat (.int ((euc (k + 1) (a, b)).2 : Nat))])
    (fun k hk => ?_) (fun k hk => ?_) (fun k hk => .same (.same .nil)) PassesOwn.never) (db_one (ds_to (ds_ret (dv 0)) ?_))
  · refine dt_is (dt_gt (dv 1) de_int) ?_
    by_cases c : k < n
    · have := h1 k c
      simp only [c, decide_true]
      exact decide_eq_true (by omega)
    · have : k = n := by omega
      subst this
      simp [h2]
  · refine db_one (ds_to (ds_par 0 1 (dv 1) (de_mod (dv 0) (dv 1) ?_) scCommon.nd) ?_)
    · have := h1 k hk; omega
    · rw [euc_succ]
      rfl
  · rw [h3]
abbrev sLowest : Stmt := top 3
theorem scLowest : FnScope ["top", "bottom", "divisor"] ["top", "bottom"] (defScope sLowest) := ⟨rfl, rfl, rfl, by decide +kernel, rfl, by decide +kernel, by decide +kernel⟩
theorem ok_lowest (G : Fun K "lowest" "lowest" sLowest f fd) (gC : Cal P w K mg base 1 "common" (spD K C R_common)) (nAbs : MgN mg "abs") : FnOk P w K mg base CX0 2 f fd ["top", "bottom"] (spD K C R_lowest) := by
  refine pure_def G scLowest (fun ds d ⟨a, b, h, _⟩ => by rw [h]; rfl) fun cdv A outer s H E hr ds d h => ?_
  obtain ⟨a, b, rfl, hb, hb2, rfl⟩ := h
  have hd : CDivW a ((Nat.gcd a.natAbs b.natAbs : Nat) : Int) := wide_div (b := 8000) (by
    have := Nat.gcd_pos_of_pos_right a.natAbs (n := b.natAbs) (by omega)
    omega) (by
    have := Nat.gcd_le_right a.natAbs (n := b.natAbs) (by omega)
    rw [Int.natAbs_natCast]; omega) (by decide) (by decide)
  refine db_cons (ds_set 2 (de_call gC hr (da_cons (de_abs nAbs (dv 0)) (da_cons (dv 1) da_nil)) ⟨a.natAbs, b.natAbs, by rw [Int.natAbs_of_nonneg (a := b) (by omega)], rfl⟩) scLowest.nd) (db_one (ds_to (ds_ret (de_tup (da_cons (de_fdiv (dv 0) (dv 2) hd) (da_cons (de_fdiv (dv 1) (dv 2) ?_) da_nil)))) ?_))
  · exact ⟨hd.1, hd.2⟩
  · unfold frD
    rw [mkQ_num hb, mkQ_den hb]
/-! ### sums, differences, products of fractions -/
/-- two fractions handed in, not too long -/
structure Two (a b c e : Int) : Prop where
  b0 : 0 < b
  e0 : 0 < e
  la : a.natAbs < 2 ^ 3000
  lb : b.natAbs < 2 ^ 3000
  lc : c.natAbs < 2 ^ 3000
  le : e.natAbs < 2 ^ 3000
theorem mulK {i j : Int} (hi : i.natAbs < 2 ^ 3000) (hj : j.natAbs < 2 ^ 3000) : IntMulOk i j := (wide_mul hi hj (by decide) (by decide) (by decide)).ok
theorem Two.den {a b c e : Int} (h : Two a b c e) : 0 < b * e ∧ (b * e).natAbs < 2 ^ 8000 := ⟨Int.mul_pos h.b0 h.e0, Nat.lt_of_lt_of_le (wide_lt h.lb h.le) (Nat.pow_le_pow_right (by decide) (by decide))⟩
theorem castne {b : Int} (h : 0 < b) : (b : Rat) ≠ 0 := by
  intro z
  have : b = 0 := Rat.intCast_inj.mp z
  omega
def R_plus : List D → D → Prop := fun ds d => ∃ (a b c e : Int), ds = [.tup [.int a, .int b], .tup [.int c, .int e]] ∧ Two a b c e ∧ d = frD (mkQ a b + mkQ c e)
def R_minus : List D → D → Prop := fun ds d => ∃ (a b c e : Int), ds = [.tup [.int a, .int b], .tup [.int c, .int e]] ∧ Two a b c e ∧ d = frD (mkQ a b - mkQ c e)
def R_times : List D → D → Prop := fun ds d => ∃ (a b c e : Int), ds = [.tup [.int a, .int b], .tup [.int c, .int e]] ∧ Two a b c e ∧ d = frD (mkQ a b * mkQ c e)
theorem scTwo {sc : Scope} (h : FnScope ["one", "other"] ["one", "other"] sc) : (["one", "other"] : List Str).Nodup := h.nd
abbrev sPlus : Stmt := top 4
theorem scPlus : FnScope ["one", "other"] ["one", "other"] (defScope sPlus) := ⟨rfl, rfl, rfl, by decide +kernel, rfl, by decide +kernel, by decide +kernel⟩
theorem ok_plus (G : Fun K "plus" "plus" sPlus f fd) (gL : Cal P w K mg base 2 "lowest" (spD K C R_lowest)) : FnOk P w K mg base CX0 3 f fd ["one", "other"] (spD K C R_plus) := by
  refine pure_def G scPlus (fun ds d ⟨a, b, c, e, h, _⟩ => by rw [h]; rfl) fun cdv A outer s H E hr ds d h => ?_
  obtain ⟨a, b, c, e, rfl, h, rfl⟩ := h
  refine db_one (ds_to (ds_ret (de_call gL hr (da_cons (de_add (de_mul (de_ixT (dv 0) de_int) (de_ixT (dv 1) de_int) (mulK h.la h.le)) (de_mul (de_ixT (dv 1) de_int) (de_ixT (dv 0) de_int) (mulK h.lc h.lb))) (da_cons (de_mul (de_ixT (dv 0) de_int) (de_ixT (dv 1) de_int) (mulK h.lb h.le)) da_nil)) ⟨_, _, rfl, h.den.1, h.den.2, rfl⟩)) ?_)
  have h1 := castne h.b0
  have h2 := castne h.e0
  congr 2
  unfold mkQ
  rw [Rat.intCast_add, Rat.intCast_mul, Rat.intCast_mul, Rat.intCast_mul]
  grind
abbrev sMinus : Stmt := top 5
theorem scMinus : FnScope ["one", "other"] ["one", "other"] (defScope sMinus) := ⟨rfl, rfl, rfl, by decide +kernel, rfl, by decide +kernel, by decide +kernel⟩
theorem ok_minus (G : Fun K "minus" "minus" sMinus f fd) (gL : Cal P w K mg base 2 "lowest" (spD K C R_lowest)) : FnOk P w K mg base CX0 3 f fd ["one", "other"] (spD K C R_minus) := by
  refine pure_def G scMinus (fun ds d ⟨a, b, c, e, h, _⟩ => by rw [h]; rfl) fun cdv A outer s H E hr ds d h => ?_
  obtain ⟨a, b, c, e, rfl, h, rfl⟩ := h
  refine db_one (ds_to (ds_ret (de_call gL hr (da_cons (de_sub (de_mul (de_ixT (dv 0) de_int) (de_ixT (dv 1) de_int) (mulK h.la h.le)) (de_mul (de_ixT (dv 1) de_int) (de_ixT (dv 0) de_int) (mulK h.lc h.lb))) (da_cons (de_mul (de_ixT (dv 0) de_int) (de_ixT (dv 1) de_int) (mulK h.lb h.le)) da_nil)) ⟨_, _, rfl, h.den.1, h.den.2, rfl⟩)) ?_)
  have h1 := castne h.b0
  have h2 := castne h.e0
  congr 2
  unfold mkQ
  rw [Rat.intCast_sub, Rat.intCast_mul, Rat.intCast_mul, Rat.intCast_mul]
  grind
abbrev sTimes : Stmt := top 6
theorem scTimes : FnScope ["one", "other"] ["one", "other"] (defScope sTimes) := ⟨rfl, rfl, rfl, by decide +kernel, rfl, by decide +kernel, by decide +kernel⟩
theorem ok_times (G : Fun K "times" "times" sTimes f fd) (gL : Cal P w K mg base 2 "lowest" (spD K C R_lowest)) : FnOk P w K mg base CX0 3 f fd ["one", "other"] (spD K C R_times) := by
  refine pure_def G scTimes (fun ds d ⟨a, b, c, e, h, _⟩ => by rw [h]; rfl) fun cdv A outer s H E hr ds d h => ?_
  obtain ⟨a, b, c, e, rfl, h, rfl⟩ := h
  refine db_one (ds_to (ds_ret (de_call gL hr (da_cons (de_mul (de_ixT (dv 0) de_int) (de_ixT (dv 1) de_int) (mulK h.la h.lc)) (da_cons (de_mul (de_ixT (dv 0) de_int) (de_ixT (dv 1) de_int) (mulK h.lb h.le)) da_nil)) ⟨_, _, rfl, h.den.1, h.den.2, rfl⟩)) ?_)
  have h1 := castne h.b0
  have h2 := castne h.e0
  congr 2
  unfold mkQ
  rw [Rat.intCast_mul, Rat.intCast_mul]
  grind
def R_rup : List D → D → Prop := fun ds d => ∃ q : Rat, ds = [frD q] ∧ q.den < 2 ^ 8000 ∧ d = .int q.ceil
theorem ceil_eq (q : Rat) : q.ceil = -(-q.num / (q.den : Int)) := by
  rw [Rat.ceil_eq_neg_floor_neg, Rat.floor_def]
  rfl
abbrev sRup : Stmt := top 7
theorem scRup : FnScope ["one"] ["one"] (defScope sRup) := ⟨rfl, rfl, rfl, by decide +kernel, rfl, by decide +kernel, by decide +kernel⟩
theorem ok_rup (G : Fun K "rounded_up" "rounded_up" sRup f fd) : FnOk P w K mg base CX0 1 f fd ["one"] (spD K C R_rup) := by
  refine pure_def G scRup (fun ds d ⟨q, h, _⟩ => by rw [h]; rfl) fun cdv A outer s H E hr ds d h => ?_
  obtain ⟨q, rfl, hq, rfl⟩ := h
  refine db_one (ds_to (ds_ret (de_neg (de_fdiv (de_neg (de_ixT (dv 0) de_int)) (de_ixT (dv 0) de_int) (wide_div (b := 8000) ?_ ?_ (by decide) (by decide))))) ?_)
  · have := q.den_pos; omega
  · rw [Int.natAbs_natCast]; exact hq
  · rw [ceil_eq]
/-- the numbers of fractions -/
def frN (q : Rat) : List Int := [q.num, (q.den : Int)]
theorem map_get {α β : Type} {l : List α} {g : α → β} {k : Nat} {d : β} (x : α) (h : (l.map g)[k]? = some d) : k < l.length ∧ d = g (l.getD k x) ∧ l[k]? = some (l.getD k x) := by
  rw [List.getElem?_map] at h
  obtain ⟨a, ha, rfl⟩ := Option.map_eq_some_iff.mp h
  have e : l.getD k x = a := by rw [List.getD_eq_getElem?_getD, ha]; rfl
  exact ⟨(List.getElem?_eq_some_iff.mp ha).1, by rw [e], by rw [e]; exact ha⟩
def R_nums : List D → D → Prop := fun ds d => ∃ qs : List Rat, ds = [.lst (qs.map frD)] ∧ qs.length ≤ 1000 ∧ d = intD (qs.flatMap frN)
theorem flat_take {α β : Type} {g : α → List β} {l : List α} {k : Nat} {a : α} (h : l[k]? = some a) : (l.take (k + 1)).flatMap g = (l.take k).flatMap g ++ g a := by
  rw [List.take_add_one, h, List.flatMap_append]
  simp
theorem flat_len {α β : Type} {g : α → List β} {n : Nat} (hn : ∀ a, (g a).length = n) : ∀ l : List α, (l.flatMap g).length = l.length * n
  | [] => by simp
  | a :: l => by rw [List.flatMap_cons, List.length_append, flat_len hn l, hn, List.length_cons, Nat.succ_mul]; omega
abbrev sNums : Stmt := top 8
theorem scNums : FnScope ["fractions", "found", "top", "bottom"] ["fractions"] (defScope sNums) := ⟨rfl, rfl, rfl, by decide +kernel, rfl, by decide +kernel, by decide +kernel⟩
theorem ok_nums (G : Fun K "numbers_of" "numbers_of" sNums f fd) : FnOk P w K mg base CX0 1 f fd ["fractions"] (spD K C R_nums) := by
  refine pure_def G scNums (fun ds d ⟨q, h, _⟩ => by rw [h]; rfl) fun cdv A outer s H E hr ds d h => ?_
  obtain ⟨qs, rfl, hq, rfl⟩ := h
  have hlen : ∀ k, ((qs.take k).flatMap frN).length ≤ 2000 := fun k => by
    rw [flat_len (n := 2) (fun _ => rfl), List.length_take]; omega
  refine db_cons (ds_setN 1 (dn_lst da_nil) scNums.nd) (db_cons (ds_for (fun _ => F0) (fun k => [.dat (.lst (qs.map frD)), .own (((qs.take k).flatMap frN).map D.int), .un, .un])
    (fun k => [.dat (.lst (qs.map frD)), .own (((qs.take k).flatMap frN).map D.int), .dat (.int (qs.getD k 0).num), .dat (.int (qs.getD k 0).den)])
    (fun k => [.dat (.lst (qs.map frD)), .own (((qs.take (k + 1)).flatMap frN).map D.int), .dat (.int (qs.getD k 0).num), .dat (.int (qs.getD k 0).den)])
    (di_list (dv 0)) (fun k d hd => ?_) (fun k d hd => ?_) (fun k hk => .same (.same (.un (.un .nil)))) PassesOwn.never) (db_one (ds_to (ds_retO 1) ?_)))
  · obtain ⟨_, rfl, _⟩ := map_get 0 hd
    exact dg_tup (dgs_cons (dg_name 2 scNums.nd) (dgs_cons (dg_name 3 scNums.nd) dgs_nil))
  · obtain ⟨_, rfl, e⟩ := map_get 0 hd
    have h1 : (((qs.take k).flatMap frN).map D.int).length ≤ 2000 := by rw [List.length_map]; exact hlen k
    have h2 : (((qs.take k).flatMap frN).map D.int ++ [D.int (qs.getD k 0).num]).length ≤ 2001 := by rw [List.length_append]; exact Nat.succ_le_succ h1
    refine db_to (db_cons (ds_append 1 (dv 2) (sz_lt h1 rfl)) (db_one (ds_append 1 (dv 3) (sz_lt h2 rfl)))) ?_
    rw [flat_take e, List.map_append]
    show Out.nx F0 [_, _, _, _] = Out.nx F0 [_, _, _, _]
    congr 4
    rw [List.append_assoc]
    rfl
  · rw [List.length_map, List.take_length]
    rfl
end
end Sw
namespace Sw
open PySem PySem.Spec PyProof.Rows L2
/-- what the text says of the class of a process -/
structure PTxt (K : PySem.W.Frag) (C : Addr) : Prop where
  cl : Cls K C
  n1 : NoAttr K C "states"
  n2 : NoAttr K C "actions"
  n3 : NoAttr K C "top"
  n4 : NoAttr K C "bottom"
  n5 : NoAttr K C "tables"
  n6 : NoAttr K C "weights"
abbrev inP (j : Nat) : Stmt := inClass (top 52) j
theorem mulR {i : Int} {n : Nat} (h : n ≤ 1000000) : IntMulOk i (n : Int) := CMul.ok (.inr ⟨by omega, by omega⟩)
theorem mulL {i : Int} {n : Nat} (h : n ≤ 1000000) : IntMulOk (n : Int) i := CMul.ok (.inl ⟨by omega, by omega⟩)
theorem mulRz {i j : Int} (h : -1000000 ≤ j ∧ j ≤ 1000000) : IntMulOk i j := CMul.ok (.inr ⟨by omega, by omega⟩)
theorem mulLz {i j : Int} (h : -1000000 ≤ i ∧ i ≤ 1000000) : IntMulOk i j := CMul.ok (.inl ⟨by omega, by omega⟩)
/-- Process.__init__ -/
def pFv (v : List V) : List (Str × V) := [("states", v.getD 0 .non), ("actions", v.getD 1 .non), ("top", v.getD 2 .non), ("bottom", v.getD 3 .non), ("tables", v.getD 4 .non), ("weights", v.getD 5 .non)]
def spPI (C : Addr) : Sp := fun vs A Q _ => ∃ (x dx : Addr) (v1 v2 v3 v4 v5 v6 : V), vs = [.ref x, v1, v2, v3, v4, v5, v6] ∧ A x = some (.ins C dx []) ∧ Q .non (upd A x (.ins C dx (pFv [v1, v2, v3, v4, v5, v6])))
section
variable {P : Program} {w : World} {K : PySem.W.Frag} {mg : Str → Option Value} {base : Heap} {C : Addr} {f : Addr} {fd : FuncData}
abbrev sPI : Stmt := inP 0
theorem scPI : FnScope ["self", "states", "actions", "top", "bottom", "tables", "weights"] ["self", "states", "actions", "top", "bottom", "tables", "weights"] (defScope sPI) := ⟨rfl, rfl, rfl, by decide +kernel, rfl, by decide +kernel, by decide +kernel⟩
theorem put_here {f : Str} {v x : V} {r : List (Str × V)} : putF f v ((f, x) :: r) = (f, v) :: r := if_pos rfl
theorem put_past {f g : Str} {v x : V} {r : List (Str × V)} (h : ¬ g = f) : putF f v ((g, x) :: r) = (g, x) :: putF f v r := if_neg h
theorem ok_PI (G : Fun K "__init__" "Process.__init__" sPI f fd) (T : PTxt K C) : FnOk P w K mg base CX0 1 f fd ["self", "states", "actions", "top", "bottom", "tables", "weights"] (spPI C) := by
  refine G.ok scPI (fun vs H Q E h => ?_) (fun cdv A outer s H vs Q E hr h => ?_)
  · obtain ⟨x, dx, v1, v2, v3, v4, v5, v6, rfl, _⟩ := h
    rfl
  · obtain ⟨x, dx, v1, v2, v3, v4, v5, v6, rfl, hx, k⟩ := h
    refine ⟨_, pss_cons (ps_fld (pv 0) (pv 1) rfl) (pss_cons (ps_fld (pv 0) (pv 2) rfl) (pss_cons (ps_fld (pv 0) (pv 3) rfl) (pss_cons (ps_fld (pv 0) (pv 4) rfl) (pss_cons (ps_fld (pv 0) (pv 5) rfl) (pss_one (ps_fld (pv 0) (pv 6) rfl)))))), ?_⟩
    refine ⟨_, rfl, _, rfl, x, C, dx, _, rfl, hx, T.cl, T.n1, (by show 0 < 1000; decide), ?_⟩
    refine ⟨_, rfl, _, rfl, x, C, dx, _, rfl, upd_same, T.cl, T.n2, (by show 1 < 1000; decide), ?_⟩
    refine ⟨_, rfl, _, rfl, x, C, dx, _, rfl, upd_same, T.cl, T.n3, (by show 2 < 1000; decide), ?_⟩
    refine ⟨_, rfl, _, rfl, x, C, dx, _, rfl, upd_same, T.cl, T.n4, (by show 3 < 1000; decide), ?_⟩
    refine ⟨_, rfl, _, rfl, x, C, dx, _, rfl, upd_same, T.cl, T.n5, (by show 4 < 1000; decide), ?_⟩
    refine ⟨_, rfl, _, rfl, x, C, dx, _, rfl, upd_same, T.cl, T.n6, (by show 5 < 1000; decide), ?_⟩
    rw [upd_upd, upd_upd, upd_upd, upd_upd, upd_upd]
    exact k
/-- the making of a process -/
def MkP (P : Program) (w : World) (K : PySem.W.Frag) (mg : Str → Option Value) (base : Heap) (k : Nat) (C : Addr) : Prop :=
  ∃ f fd ps, Mk K C f ∧ FnOk P w K mg base CX0 k f fd ps (spPI C) ∧ mg "Process" = some (.ref C) ∧ Binds K fd ps []
theorem rows_of {H : Hp} : ∀ {xs : List V} {rs : List (List Int)}, RpAll K C H xs (rs.map intD) → ∃ ws : List Addr, xs = ws.map V.ref ∧ RowsAt H ws rs
  | [], [], _ => ⟨[], rfl, True.intro⟩
  | [], _ :: _, h => by simp only [List.map_cons, RpAll] at h
  | _ :: _, [], h => by simp only [List.map_nil, RpAll] at h
  | x :: xs, r :: rs, h => by
    simp only [List.map_cons, RpAll] at h
    obtain ⟨h1, h2⟩ := h
    simp only [intD, Rp] at h1
    obtain ⟨a, ys, rfl, h3, h4⟩ := h1
    rw [rpAll_ints h4] at h3
    obtain ⟨ws, rfl, h5⟩ := rows_of h2
    exact ⟨a :: ws, rfl, h3, h5⟩
theorem de_make {X : Cx} {F : Fm} {δ : List SD} {k : Nat} {e : Expr} {es : List Expr} {p pos : Pos} {pr : Kp389.Process} (G : MkP X.prog X.w X.K X.mg X.base k C) (hr : Room (k + 1) X.A)
    (ha : DA C X (e :: es) F δ [.int pr.stateCount, .int pr.actionCount, .int pr.discountNum, .int pr.discountDen, .lst [intD pr.rewards0, intD pr.rewards1], .lst ((wInt pr.transitions).map intD)]) (hg : Gl X "Process" := by rfl)
    (he : starEach (e :: es) X.env = (false, eval e X.env) :: starEach es X.env := by rfl) (hpl : (backTo pos (starEach es X.env)).any (·.1) = false := by rfl) : DE C X (.Call (.Name "Process" p) (e :: es) [] pos) F δ (.proc pr) := by
  obtain ⟨f, fd, ps, M, G, hm, hb⟩ := G
  refine pe_imp (pe_make M G hr hg hm hb .nil pass0 ha (by decide) he hpl) fun σ A Q ⟨Mm, A0, H, ea, ff, s, q⟩ => ⟨Mm, A0, H, ea, ff, s, fun vs H1 A1 n r => ?_⟩
  match vs, r with
  | [v1, v2, v3, v4, v5, v6], r =>
    simp only [RpAll, Rp] at r
    obtain ⟨rfl, rfl, rfl, rfl, ⟨tb, xs, rfl, h2, h3⟩, ⟨wb, ys, rfl, h4, h5⟩, _⟩ := r
    match xs, h3 with
    | [t0, t1], h3 =>
      simp only [RpAll, intD, Rp] at h3
      obtain ⟨⟨a0, z0, rfl, g1, g2⟩, ⟨a1, z1, rfl, g3, g4⟩, _⟩ := h3
      rw [rpAll_ints g2] at g1
      rw [rpAll_ints g4] at g3
      obtain ⟨ws, rfl, h6⟩ := rows_of h5
      intro x dx hx hdx hne
      refine ⟨x, dx, _, _, _, _, _, _, rfl, upd_same, rfl, ?_⟩
      rw [upd_upd]
      have n1 := Nx.new n.ha (o := .own x) hdx
      have hx1 : upd A1 dx (.own x) x = none := by rw [upd_ne hne.symm]; exact hx
      have n2 := n1.trans (Nx.new n1.ha (o := .ins C dx (pF pr tb wb)) hx1)
      refine q (.ref x) _ _ (n.trans n2) ?_
      simp only [Rp]
      refine ⟨x, rfl, ⟨dx, tb, a0, a1, wb, ws, upd_same, n2.hh _ _ h2, n2.hh _ _ g1, n2.hh _ _ g3, n2.hh _ _ h4, rows_mono n2.hh h6⟩⟩
    | [], h3 => simp only [RpAll] at h3
    | [_], h3 => simp only [RpAll] at h3; exact h3.2.elim
    | _ :: _ :: _ :: _, h3 => simp only [RpAll] at h3; exact h3.2.2.elim
  | [], r => simp only [RpAll] at r
  | [_], r => simp only [RpAll] at r; exact r.2.elim
  | [_, _], r => simp only [RpAll] at r; exact r.2.2.elim
  | [_, _, _], r => simp only [RpAll] at r; exact r.2.2.2.elim
  | [_, _, _, _], r => simp only [RpAll] at r; exact r.2.2.2.2.elim
  | [_, _, _, _, _], r => simp only [RpAll] at r; exact r.2.2.2.2.2.elim
  | _ :: _ :: _ :: _ :: _ :: _ :: _ :: _, r => simp only [RpAll] at r; exact r.2.2.2.2.2.2.elim
/-! ### small methods -/
def R_count : List D → D → Prop := fun ds d => ∃ p, ds = [.proc p] ∧ PWf p ∧ d = .int (Kp389.rewardCount p : Nat)
abbrev sCount : Stmt := inP 1
theorem scSelf {st : Stmt} (h : FnScope ["self"] ["self"] (defScope st)) : True := True.intro
theorem scCount : FnScope ["self"] ["self"] (defScope sCount) := ⟨rfl, rfl, rfl, by decide +kernel, rfl, by decide +kernel, by decide +kernel⟩
theorem ok_count (G : Fun K "reward_count" "Process.reward_count" sCount f fd) (T : PTxt K C) : FnOk P w K mg base CX0 1 f fd ["self"] (spD K C R_count) := by
  refine pure_def G scCount (fun ds d ⟨q, h, _⟩ => by rw [h]; rfl) fun cdv A outer s H E hr ds d h => ?_
  obtain ⟨p, rfl, W, rfl⟩ := h
  have h4 := W.n4
  have h3 := W.m3
  refine db_one (ds_to (ds_ret (de_mul (de_mul (de_fld pf_states T.cl T.n1 (dv 0)) (de_fld pf_actions T.cl T.n2 (dv 0)) (mulR (by omega))) (de_fld pf_states T.cl T.n1 (dv 0)) (mulR (by omega)))) ?_)
  unfold Kp389.rewardCount
  rw [Int.natCast_mul, Int.natCast_mul]
def R_place : List D → D → Prop := fun ds d => ∃ p s a q, ds = [.proc p, .int (s : Nat), .int (a : Nat), .int (q : Nat)] ∧ PWf p ∧ d = .int (Kp389.index p s a q : Nat)
abbrev sPlace : Stmt := inP 2
theorem scPlace : FnScope ["self", "state", "action", "later"] ["self", "state", "action", "later"] (defScope sPlace) := ⟨rfl, rfl, rfl, by decide +kernel, rfl, by decide +kernel, by decide +kernel⟩
theorem ok_place (G : Fun K "place" "Process.place" sPlace f fd) (T : PTxt K C) : FnOk P w K mg base CX0 1 f fd ["self", "state", "action", "later"] (spD K C R_place) := by
  refine pure_def G scPlace (fun ds d ⟨_, _, _, _, h, _⟩ => by rw [h]; rfl) fun cdv A outer s H E hr ds d h => ?_
  obtain ⟨p, s, a, q, rfl, W, rfl⟩ := h
  have h4 := W.n4
  have h3 := W.m3
  refine db_one (ds_to (ds_ret (de_add (de_mul (de_add (de_mul (dv 1) (de_fld pf_actions T.cl T.n2 (dv 0)) (mulR (by omega))) (dv 2)) (de_fld pf_states T.cl T.n1 (dv 0)) (mulR (by omega))) (dv 3))) ?_)
  unfold Kp389.index
  rw [Int.natCast_add, Int.natCast_mul, Int.natCast_add, Int.natCast_mul]
theorem idx_lt {p : Kp389.Process} {s a q : Nat} (hs : s < p.stateCount) (ha : a < p.actionCount) (hq : q < p.stateCount) : Kp389.index p s a q < p.stateCount * p.actionCount * p.stateCount := lt_mul_of (lt_mul_of hs ha) hq
theorem PWf.rlen {p : Kp389.Process} (W : PWf p) (t : Nat) : (Kp389.rewards p t).length = p.stateCount * p.actionCount * p.stateCount := by
  unfold Kp389.rewards
  split
  · exact W.l0
  · exact W.l1
theorem PWf.rbd {p : Kp389.Process} (W : PWf p) (t : Nat) : ∀ x ∈ Kp389.rewards p t, -100000 ≤ x ∧ x ≤ 100000 := by
  unfold Kp389.rewards
  split
  · exact W.b0
  · exact W.b1
theorem PWf.rget {p : Kp389.Process} (W : PWf p) (t : Nat) {s a q : Nat} (hs : s < p.stateCount) (ha : a < p.actionCount) (hq : q < p.stateCount) : (Kp389.rewards p t)[Kp389.index p s a q]? = some (Kp389.reward p t s a q) := by
  have h := idx_lt hs ha hq
  unfold Kp389.reward Kp389.rewardIn
  rw [List.getD_eq_getElem?_getD, List.getElem?_eq_getElem (by rw [W.rlen]; exact h)]
  rfl
theorem PWf.rwd {p : Kp389.Process} (W : PWf p) (t : Nat) {s a q : Nat} (hs : s < p.stateCount) (ha : a < p.actionCount) (hq : q < p.stateCount) : -100000 ≤ Kp389.reward p t s a q ∧ Kp389.reward p t s a q ≤ 100000 := W.rbd t _ (List.mem_of_getElem? (W.rget t hs ha hq))
theorem tab_at {p : Kp389.Process} {t : Nat} (ht : t ≤ 1) : atI [intD p.rewards0, intD p.rewards1] (t : Int) = some (intD (Kp389.rewards p t)) := by
  refine atI_nat ?_
  match t, ht with
  | 0, _ => rfl
  | 1, _ => rfl
theorem int_at {ns : List Int} {j : Nat} {v : Int} (h : ns[j]? = some v) : atI (ns.map D.int) (j : Int) = some (D.int v) := atI_nat (by rw [List.getElem?_map, h]; rfl)
def R_reward : List D → D → Prop := fun ds d => ∃ p t s a q, ds = [.proc p, .int (t : Nat), .int (s : Nat), .int (a : Nat), .int (q : Nat)] ∧ PWf p ∧ t ≤ 1 ∧ s < p.stateCount ∧ a < p.actionCount ∧ q < p.stateCount ∧ d = .int (Kp389.reward p t s a q)
abbrev sReward : Stmt := inP 3
theorem scReward : FnScope ["self", "table", "state", "action", "later"] ["self", "table", "state", "action", "later"] (defScope sReward) := ⟨rfl, rfl, rfl, by decide +kernel, rfl, by decide +kernel, by decide +kernel⟩
theorem ok_reward (G : Fun K "reward" "Process.reward" sReward f fd) (T : PTxt K C) (gP : MetC P w K mg base 1 C "place" (spD K C R_place)) : FnOk P w K mg base CX0 2 f fd ["self", "table", "state", "action", "later"] (spD K C R_reward) := by
  refine pure_def G scReward (fun ds d ⟨_, _, _, _, _, h, _⟩ => by rw [h]; rfl) fun cdv A outer s H E hr ds d h => ?_
  obtain ⟨p, t, s, a, q, rfl, W, ht, hs, ha, hq, rfl⟩ := h
  exact db_one (ds_ret (de_ixL (de_ixL (de_fld pf_tables T.cl T.n5 (dv 0)) (dv 1) (tab_at ht)) (de_meth gP hr T.cl (by unfold NoF; decide +kernel) (dv 0) (da_cons (dv 2) (da_cons (dv 3) (da_cons (dv 4) da_nil))) ⟨p, s, a, q, rfl, W, rfl⟩) (int_at (W.rget t hs ha hq))))
def wI (p : Kp389.Process) (s a : Nat) : List Int := (Kp389.weights p s a).map fun (x : Nat) => (x : Int)
theorem PWf.wget {p : Kp389.Process} (W : PWf p) {s a : Nat} (hs : s < p.stateCount) (ha : a < p.actionCount) : (wInt p.transitions)[s * p.actionCount + a]? = some (wI p s a) := by
  have h := lt_mul_of hs ha
  unfold wInt wI Kp389.weights
  rw [List.getElem?_map, List.getD_eq_getElem?_getD, List.getElem?_eq_getElem (by rw [W.tl]; exact h)]
  rfl
def R_wof : List D → D → Prop := fun ds d => ∃ p s a, ds = [.proc p, .int (s : Nat), .int (a : Nat)] ∧ PWf p ∧ s < p.stateCount ∧ a < p.actionCount ∧ d = intD (wI p s a)
abbrev sWof : Stmt := inP 4
theorem scWof : FnScope ["self", "state", "action"] ["self", "state", "action"] (defScope sWof) := ⟨rfl, rfl, rfl, by decide +kernel, rfl, by decide +kernel, by decide +kernel⟩
theorem ok_wof (G : Fun K "weights_of" "Process.weights_of" sWof f fd) (T : PTxt K C) : FnOk P w K mg base CX0 1 f fd ["self", "state", "action"] (spD K C R_wof) := by
  refine pure_def G scWof (fun ds d ⟨_, _, _, h, _⟩ => by rw [h]; rfl) fun cdv A outer s H E hr ds d h => ?_
  obtain ⟨p, s, a, rfl, W, hs, ha, rfl⟩ := h
  have h3 := W.m3
  refine db_one (ds_ret (de_ixL (de_fld pf_weights T.cl T.n6 (dv 0)) (de_add (de_mul (dv 1) (de_fld pf_actions T.cl T.n2 (dv 0)) (mulR (by omega))) (dv 2)) ?_))
  have : ((s : Int) * (p.actionCount : Int) + (a : Int)) = ((s * p.actionCount + a : Nat) : Int) := by rw [Int.natCast_add, Int.natCast_mul]
  rw [this]
  exact atI_nat (by rw [List.getElem?_map, W.wget hs ha]; rfl)
/-! ### the keys -/
def tripD (t : Nat × Nat × Nat) : D := .tup [.int t.1, .int t.2.1, .int t.2.2]
def R_keys : List D → D → Prop := fun ds d => ∃ p, ds = [.proc p] ∧ PWf p ∧ d = .lst ((Kp389.triples p).map tripD)
def keyRow (p : Kp389.Process) (s a : Nat) : List D := (List.range p.stateCount).map fun q => tripD (s, a, q)
def keyBl (p : Kp389.Process) (s a : Nat) : List D := (List.range a).flatMap (keyRow p s)
def keyAll (p : Kp389.Process) (s : Nat) : List D := (List.range s).flatMap fun s' => keyBl p s' p.actionCount
theorem range_flat {α : Type} (g : Nat → List α) (k : Nat) : (List.range (k + 1)).flatMap g = (List.range k).flatMap g ++ g k := by
  rw [List.range_succ, List.flatMap_append]; simp
theorem keyBl_len (p : Kp389.Process) (s a : Nat) : (keyBl p s a).length = a * p.stateCount := by
  unfold keyBl
  rw [flat_len (n := p.stateCount) (fun _ => by simp [keyRow]), List.length_range]
theorem keyAll_len (p : Kp389.Process) (s : Nat) : (keyAll p s).length = s * (p.actionCount * p.stateCount) := by
  unfold keyAll
  rw [flat_len (n := p.actionCount * p.stateCount) (fun _ => keyBl_len _ _ _), List.length_range]
theorem range_get {n k : Nat} {d : D} (h : ((List.range n).map fun (k : Nat) => D.int (k : Int))[k]? = some d) : k < n ∧ d = .int (k : Int) := by
  rw [List.getElem?_map] at h
  obtain ⟨a, ha, rfl⟩ := Option.map_eq_some_iff.mp h
  obtain ⟨h1, h2⟩ := List.getElem?_eq_some_iff.mp ha
  rw [List.getElem_range] at h2
  subst h2
  exact ⟨by simpa using h1, rfl⟩
theorem range_mget {α : Type} {n k : Nat} {g : Nat → α} {d : α} (h : ((List.range n).map g)[k]? = some d) : k < n ∧ d = g k := by
  rw [List.getElem?_map] at h
  obtain ⟨a, ha, rfl⟩ := Option.map_eq_some_iff.mp h
  obtain ⟨h1, h2⟩ := List.getElem?_eq_some_iff.mp ha
  rw [List.getElem_range] at h2
  subst h2
  exact ⟨by simpa using h1, rfl⟩
theorem range_len (n : Nat) {α : Type} (g : Nat → α) : ((List.range n).map g).length = n := by simp
abbrev sKeys : Stmt := inP 5
theorem scKeys : FnScope ["self", "found", "state", "action", "later"] ["self"] (defScope sKeys) := ⟨rfl, rfl, rfl, by decide +kernel, rfl, by decide +kernel, by decide +kernel⟩
theorem ok_keys (G : Fun K "keys" "Process.keys" sKeys f fd) (T : PTxt K C) (nR : MgN mg "range") : FnOk P w K mg base CX0 1 f fd ["self"] (spD K C R_keys) := by
  refine pure_def G scKeys (fun ds d ⟨_, h, _⟩ => by rw [h]; rfl) fun cdv A outer s H E hr ds d h => ?_
  obtain ⟨p, rfl, W, rfl⟩ := h
  have h4 := W.n4
  have h3 := W.m3
  have z : ∀ s, s ≤ p.stateCount → s * (p.actionCount * p.stateCount) ≤ 48 := fun s hs => by
    have h1 : p.actionCount * p.stateCount ≤ 3 * 4 := Nat.mul_le_mul h3 h4
    have h2 : s * (p.actionCount * p.stateCount) ≤ 4 * 12 := Nat.mul_le_mul (by omega) h1
    omega
  have z2 : ∀ a, a ≤ p.actionCount → a * p.stateCount ≤ 12 := fun a ha => by
    have : a * p.stateCount ≤ 3 * 4 := Nat.mul_le_mul (by omega) h4
    omega
  refine db_cons (ds_setN 1 (dn_lst da_nil) scKeys.nd) (db_cons (ds_to (ds_for (ds := (List.range p.stateCount).map fun (k : Nat) => D.int (k : Int)) (fun _ => F0) (fun s => [.dat (.proc p), .own (keyAll p s), .un, .un, .un])
    (fun s => [.dat (.proc p), .own (keyAll p s), .dat (.int (s : Nat)), .un, .un]) (fun s => [.dat (.proc p), .own (keyAll p s ++ keyBl p s p.actionCount), .dat (.int (s : Nat)), .un, .un])
    (di_rangeN nR (de_fld pf_states T.cl T.n1 (dv 0)) (by omega)) (fun k d hd => ?_) (fun k d hd => ?_) (fun k hk => ?_) PassesOwn.never) (by rw [range_len])) (db_one (ds_to (ds_retO 1) ?_)))
  · obtain ⟨hk, rfl⟩ := range_get hd
    exact dg_name 2 scKeys.nd
  · obtain ⟨hk, rfl⟩ := range_get hd
    refine db_from (db_one (ds_to (ds_for (ds := (List.range p.actionCount).map fun (k : Nat) => D.int (k : Int)) (fun _ => F0) (fun a => [.dat (.proc p), .own (keyAll p k ++ keyBl p k a), .dat (.int (k : Nat)), .un, .un])
      (fun a => [.dat (.proc p), .own (keyAll p k ++ keyBl p k a), .dat (.int (k : Nat)), .dat (.int (a : Nat)), .un]) (fun a => [.dat (.proc p), .own (keyAll p k ++ keyBl p k a ++ keyRow p k a), .dat (.int (k : Nat)), .dat (.int (a : Nat)), .un])
      (di_rangeN nR (de_fld pf_actions T.cl T.n2 (dv 0)) (by omega)) (fun j d hd => ?_) (fun j d hd => ?_) (fun j hj => ?_) PassesOwn.never) (by rw [range_len]))) (by simp [keyBl])
    · obtain ⟨hj, rfl⟩ := range_get hd
      exact dg_name 3 scKeys.nd
    · obtain ⟨hj, rfl⟩ := range_get hd
      refine db_to (db_one (ds_extend 1 (gs := keyRow p k j) (de_of (dn_lc (n := "later") (i := 4) (di_rangeN nR (de_fld pf_states T.cl T.n1 (dv 0)) (by omega)) (blkOk_by (N := ["self", "found", "state", "action", "later"]) (sc := defScope sKeys) (by decide +kernel)) scKeys.nd (fun _ _ _ _ _ => pg_name (i := 4) scKeys.nd rfl (Or.inl rfl)) ?_ ?_ (fun i d e hd he s H C' cl fp => ?_))) (sz_le (n := (keyAll p k ++ keyBl p k j).length + (keyRow p k j).length) (m := 1000) ?_ rfl))) rfl
      · simp [keyRow]
      · exact sz_le (m := 4) (by rw [range_len]; omega) rfl
      · obtain ⟨hi, rfl⟩ := range_get hd
        obtain ⟨_, rfl⟩ := range_mget he
        exact de_tup (da_cons (dv 2) (da_cons (dv 3) (da_cons (dv 4) da_nil)))
      · rw [List.length_append, keyAll_len, keyBl_len]
        have := z k (by omega)
        have := z2 j (by omega)
        simp [keyRow]
        omega
    · refine .same ?_
      have : keyAll p k ++ keyBl p k (j + 1) = keyAll p k ++ keyBl p k j ++ keyRow p k j := by
        rw [List.append_assoc]; congr 1; exact range_flat _ _
      rw [this]
      exact .same (.same (.un (.same .nil)))
  · refine .same ?_
    have : keyAll p (k + 1) = keyAll p k ++ keyBl p k p.actionCount := range_flat _ _
    rw [this]
    exact .same (.un (.same (.same .nil)))
  · congr 2
    unfold keyAll keyBl keyRow Kp389.triples Kp389.states Kp389.actions
    simp only [List.map_flatMap, List.map_map]
    rfl
end
end Sw
namespace Sw
open PySem PySem.Spec PyProof.Rows L2
section
variable {P : Program} {w : World} {K : PySem.W.Frag} {mg : Str → Option Value} {base : Heap} {C : Addr} {f : Addr} {fd : FuncData}
def R_wtab : List D → D → Prop := fun ds d => ∃ p t l, ds = [.proc p, .int (t : Nat), intD l] ∧ t ≤ 1 ∧ d = .proc (Kp389.withRewards p t l)
abbrev sWtab : Stmt := inP 6
theorem scWtab : FnScope ["self", "table", "rewards", "tables"] ["self", "table", "rewards"] (defScope sWtab) := ⟨rfl, rfl, rfl, by decide +kernel, rfl, by decide +kernel, by decide +kernel⟩
theorem ok_wtab (G : Fun K "with_table" "Process.with_table" sWtab f fd) (T : PTxt K C) (gM : MkP P w K mg base 1 C) : FnOk P w K mg base CX0 3 f fd ["self", "table", "rewards"] (spD K C R_wtab) := by
  refine pure_def G scWtab (fun ds d ⟨_, _, _, h, _⟩ => by rw [h]; rfl) fun cdv A outer s H E hr ds d h => ?_
  obtain ⟨p, t, l, rfl, ht, rfl⟩ := h
  have e0 : atI [intD p.rewards0, intD p.rewards1] 0 = some (intD p.rewards0) := rfl
  have e1 : atI [intD p.rewards0, intD p.rewards1] 1 = some (intD p.rewards1) := rfl
  have e2 : ixN ([intD p.rewards0, intD p.rewards1] : List D).length (t : Int) = some t := by
    unfold ixN
    rw [if_pos (by omega), if_pos (by show (t : Int) < (2 : Nat); omega)]
    rfl
  refine db_cons (ds_setN 3 (dn_lst (da_cons (de_ixL (de_fld pf_tables T.cl T.n5 (dv 0)) de_int e0) (da_cons (de_ixL (de_fld pf_tables T.cl T.n5 (dv 0)) de_int e1) da_nil))) scWtab.nd)
    (db_cons (ds_setIx 3 (dv 1) (dv 2) e2) (db_freeze 3 (db_one (ds_ret (de_make gM hr (da_cons (de_is (de_fld pf_states T.cl T.n1 (dv 0)) ?_) (da_cons (de_is (de_fld pf_actions T.cl T.n2 (dv 0)) ?_) (da_cons (de_is (de_fld pf_top T.cl T.n3 (dv 0)) ?_) (da_cons (de_is (de_fld pf_bottom T.cl T.n4 (dv 0)) ?_) (da_cons (de_is (dv 3) ?_) (da_cons (de_is (de_fld pf_weights T.cl T.n6 (dv 0)) ?_) da_nil)))))))))))
  all_goals
    unfold Kp389.withRewards
    match t, ht with
    | 0, _ => rfl
    | 1, _ => rfl
def R_wwei : List D → D → Prop := fun ds d => ∃ (p : Kp389.Process) (tr : List (List Nat)), ds = [.proc p, .lst ((wInt tr).map intD)] ∧ d = .proc { p with transitions := tr }
abbrev sWwei : Stmt := inP 7
theorem scWwei : FnScope ["self", "weights"] ["self", "weights"] (defScope sWwei) := ⟨rfl, rfl, rfl, by decide +kernel, rfl, by decide +kernel, by decide +kernel⟩
theorem ok_wwei (G : Fun K "with_weights" "Process.with_weights" sWwei f fd) (T : PTxt K C) (gM : MkP P w K mg base 1 C) : FnOk P w K mg base CX0 3 f fd ["self", "weights"] (spD K C R_wwei) := by
  refine pure_def G scWwei (fun ds d ⟨_, _, h, _⟩ => by rw [h]; rfl) fun cdv A outer s H E hr ds d h => ?_
  obtain ⟨p, tr, rfl, rfl⟩ := h
  refine db_one (ds_ret (de_make gM hr (da_cons (de_is (de_fld pf_states T.cl T.n1 (dv 0)) ?_) (da_cons (de_is (de_fld pf_actions T.cl T.n2 (dv 0)) ?_) (da_cons (de_is (de_fld pf_top T.cl T.n3 (dv 0)) ?_) (da_cons (de_is (de_fld pf_bottom T.cl T.n4 (dv 0)) ?_) (da_cons (de_is (de_fld pf_tables T.cl T.n5 (dv 0)) ?_) (da_cons (dv 1) da_nil))))))))
  all_goals rfl
/-! ### weights that lead to one state -/
def onlyAt (n q : Nat) : List Nat := (List.range n).map fun s => if s = q then 1 else 0
def R_only : List D → D → Prop := fun ds d => ∃ n q : Nat, ds = [.int n, .int q] ∧ n ≤ 4 ∧ d = intD ((onlyAt n q).map fun (x : Nat) => (x : Int))
abbrev sOnly : Stmt := top 53
abbrev nOnly : List Str := ["states", "later", "state"]
theorem scOnly : FnScope nOnly ["states", "later"] (defScope sOnly) := ⟨rfl, rfl, rfl, by decide +kernel, rfl, by decide +kernel, by decide +kernel⟩
theorem ok_only (G : Fun K "only_at" "only_at" sOnly f fd) (nR : MgN mg "range") (nI : MgN mg "int") : FnOk P w K mg base CX0 1 f fd ["states", "later"] (spD K C R_only) := by
  refine pure_def G scOnly (fun ds d ⟨_, _, h, _⟩ => by rw [h]; rfl) fun cdv A outer s H E hr ds d h => ?_
  obtain ⟨n, q, rfl, hn, rfl⟩ := h
  refine db_one (ds_ret (de_of (dn_lc (n := "state") (i := 2) (di_rangeN nR (dv 0) (by omega)) (blkOk_by (N := nOnly) (sc := defScope sOnly) (by decide +kernel)) scOnly.nd (fun _ _ _ _ _ => pg_name (i := 2) scOnly.nd rfl (Or.inl rfl)) ?_ ?_ (fun i d e hd he s H C' cl fp => ?_))))
  · simp [onlyAt]
  · exact sz_le (m := 4) (by rw [range_len]; omega) rfl
  · obtain ⟨hi, rfl⟩ := range_get hd
    have he' : e = .int (if i = q then 1 else 0) := by
      unfold onlyAt at he
      rw [List.map_map, List.map_map] at he
      obtain ⟨_, rfl⟩ := range_mget he
      simp only [Function.comp]
      split <;> rfl
    subst he'
    refine de_is (de_intb nI (de_eq (dv 2) (dv 1))) ?_
    by_cases c : i = q
    · subst c; simp
    · have : ¬ (i : Int) = (q : Int) := by omega
      simp [c, this]
/-! ### a new process -/
def R_newp : List D → D → Prop := fun ds d => ∃ n m g h : Nat, ds = [.int n, .int m, .int g, .int h] ∧ n ≤ 4 ∧ m ≤ 3 ∧ d = .proc (Kp389.newProcess n m g h)
abbrev sNewp : Stmt := top 54
abbrev nNewp : List Str := ["states", "actions", "top", "bottom", "weights", "state", "nothing", "action"]
theorem scNewp : FnScope nNewp ["states", "actions", "top", "bottom"] (defScope sNewp) := ⟨rfl, rfl, rfl, by decide +kernel, rfl, by decide +kernel, by decide +kernel⟩
def trRow (n m s : Nat) : List (List Nat) := List.replicate m (onlyAt n s)
def trUp (n m k : Nat) : List (List Nat) := (List.range k).flatMap (trRow n m)
theorem ok_newp (G : Fun K "new_process" "new_process" sNewp f fd) (nR : MgN mg "range") (gO : Cal P w K mg base 1 "only_at" (spD K C R_only)) (gM : MkP P w K mg base 1 C) : FnOk P w K mg base CX0 3 f fd ["states", "actions", "top", "bottom"] (spD K C R_newp) := by
  refine pure_def G scNewp (fun ds d ⟨_, _, _, _, h, _⟩ => by rw [h]; rfl) fun cdv A outer s H E hr ds d h => ?_
  obtain ⟨n, m, g, h, rfl, hn, hm, rfl⟩ := h
  have hr1 : Room 1 _ := hr.mono (by decide)
  have hnm : n * m ≤ 4 * 3 := Nat.mul_le_mul hn hm
  have hnmn : n * m * n ≤ 12 * 4 := Nat.mul_le_mul hnm hn
  have hl : ∀ k, k ≤ n → (trUp n m k).length ≤ 12 := fun k hk => by
    unfold trUp
    rw [flat_len (n := m) (fun _ => by simp [trRow]), List.length_range]
    have : k * m ≤ 4 * 3 := Nat.mul_le_mul (by omega) hm
    omega
  refine db_cons (ds_setN 4 (dn_lst da_nil) scNewp.nd) ?_
  refine db_cons (ds_for (ds := (List.range n).map fun (k : Nat) => D.int (k : Int)) (fun _ => F0)
    (fun s => [.dat (.int n), .dat (.int m), .dat (.int g), .dat (.int h), .own ((wInt (trUp n m s)).map intD), .un, .un, .un])
    (fun s => [.dat (.int n), .dat (.int m), .dat (.int g), .dat (.int h), .own ((wInt (trUp n m s)).map intD), .dat (.int (s : Nat)), .un, .un])
    (fun s => [.dat (.int n), .dat (.int m), .dat (.int g), .dat (.int h), .own ((wInt (trUp n m s)).map intD ++ (wInt (trRow n m s)).map intD), .dat (.int (s : Nat)), .un, .un])
    (di_rangeN nR (dv 0) (by omega)) (fun k d hd => ?_) (fun k d hd => ?_) (fun k hk => ?_) PassesOwn.never) ?_
  · obtain ⟨hk, rfl⟩ := range_get hd
    exact dg_name 5 scNewp.nd
  · obtain ⟨hk, rfl⟩ := range_get hd
    have z1 : ((wInt (trUp n m k)).map intD).length + ((wInt (trRow n m k)).map intD).length ≤ 100 := by
      have := hl k (by omega)
      simp only [List.length_map, wInt]
      simp only [trRow, List.length_replicate]
      omega
    refine db_to (db_one (ds_extend 4 (gs := (wInt (trRow n m k)).map intD) (de_of (dn_lc (n := "action") (i := 7) (di_rangeN nR (dv 1) (by omega)) (blkOk_by (N := nNewp) (sc := defScope sNewp) (by decide +kernel)) scNewp.nd (fun _ _ _ _ _ => pg_name (i := 7) scNewp.nd rfl (Or.inl rfl)) ?_ ?_ (fun i d e hd he s H C' cl fp => ?_))) (sz_le z1 rfl))) rfl
    · simp [wInt, trRow]
    · exact sz_le (m := 4) (by rw [range_len]; omega) rfl
    · have he' : e = intD ((onlyAt n k).map fun (x : Nat) => (x : Int)) := by
        unfold wInt trRow at he
        rw [List.map_replicate, List.map_replicate] at he
        rw [List.getElem?_replicate] at he
        split at he
        · exact (Option.some.inj he).symm
        · cases he
      subst he'
      exact de_call gO hr1 (da_cons (dv 0) (da_cons (dv 5) da_nil)) ⟨n, k, rfl, hn, rfl⟩
  · have : (wInt (trUp n m (k + 1))).map intD = (wInt (trUp n m k)).map intD ++ (wInt (trRow n m k)).map intD := by
      unfold trUp wInt
      rw [range_flat]
      simp
    rw [this]
    exact .same (.same (.same (.same (.same (.un (.same (.same .nil)))))))
  refine db_cons (ds_set 6 (de_of (dn_rep (de_of (dn_lst (da_cons de_int da_nil))) (de_mul (de_mul (dv 0) (dv 1) (mulR (by omega))) (dv 0) (mulR (by omega))) ?_ ?_ ?_)) scNewp.nd) ?_
  rotate_left 3
  refine db_freeze 4 (db_one (ds_ret (de_make gM hr (da_cons (dv 0) (da_cons (dv 1) (da_cons (dv 2) (da_cons (dv 3) (da_cons (de_is (de_of (dn_lst (da_cons (dv 6) (da_cons (dv 6) da_nil)))) ?_) (da_cons (de_is (dv 4) ?_) da_nil)))))))))
  rotate_left 2
  · have : (0 : Int) ≤ (n : Int) * (m : Int) * (n : Int) := by
      rw [← Int.natCast_mul, ← Int.natCast_mul]; omega
    omega
  · have : (n : Int) * (m : Int) * (n : Int) = ((n * m * n : Nat) : Int) := by rw [Int.natCast_mul, Int.natCast_mul]
    rw [this]
    omega
  · have : (n : Int) * (m : Int) * (n : Int) = ((n * m * n : Nat) : Int) := by rw [Int.natCast_mul, Int.natCast_mul]
    rw [this]
    exact sz_le (m := 100) (by simp; omega) rfl
  · have : (n : Int) * (m : Int) * (n : Int) = ((n * m * n : Nat) : Int) := by rw [Int.natCast_mul, Int.natCast_mul]
    have e : (List.replicate ((n : Int) * (m : Int) * (n : Int)).toNat [D.int 0]).flatten = ((Kp389.newProcess n m g h).rewards0).map D.int := by
      rw [this]
      show (List.replicate (n * m * n) [D.int 0]).flatten = (List.replicate (n * m * n) (0 : Int)).map D.int
      rw [List.map_replicate]
      generalize n * m * n = z
      induction z with
      | zero => rfl
      | succ z ih => rw [List.replicate_succ, List.flatten_cons, ih, List.replicate_succ]; rfl
    unfold intD
    show D.lst [D.lst _, D.lst _] = D.lst [_, _]
    rw [e]
    rfl
  · rw [List.length_map, List.length_range]
    rfl
end
end Sw
namespace Sw
open PySem PySem.Spec PyProof.Rows L2
/-! ### data compared -/
mutual
def toP : D → PyData
  | .bl b => .bool b
  | .int i => .int i
  | .lst ds => .list (toPs ds)
  | .tup ds => .tuple (toPs ds)
  | .non | .raw _ | .ro _ | .proc _ => .none
def toPs : List D → List PyData
  | [] => []
  | d :: ds => toP d :: toPs ds
end
mutual
def plainD : D → Bool
  | .bl _ | .int _ | .non => true
  | .lst ds => plainDs ds
  | .tup ds => plainDs ds
  | .raw _ | .ro _ | .proc _ => false
def plainDs : List D → Bool
  | [] => true
  | d :: ds => plainD d && plainDs ds
end
section
variable {K : PySem.W.Frag} {C : Addr} {H A : Hp}
mutual
theorem dp_of (e : Ex H A) : ∀ (d : D) (v : V), plainD d = true → Rp K C H v d → Dp K A v (toP d)
  | .non, v, _, r => by simp only [Rp] at r; subst r; exact .non
  | .bl b, v, _, r => by simp only [Rp] at r; subst r; exact .bl b
  | .int b, v, _, r => by simp only [Rp] at r; subst r; exact .int b
  | .lst ds, v, h, r => by
    simp only [Rp] at r
    obtain ⟨a, xs, rfl, h2, h3⟩ := r
    simp only [plainD] at h
    simp only [toP]
    exact .lst (SqL.of (e _ _ h2)) (dps_of e ds xs h h3)
  | .tup ds, v, h, r => by
    simp only [Rp] at r
    obtain ⟨a, xs, rfl, h2, h3⟩ := r
    simp only [plainD] at h
    simp only [toP]
    exact .tup (sqt_mono e h2) (dps_of e ds xs h h3)
  | .raw _, _, h, _ => by simp only [plainD, Bool.false_eq_true] at h
  | .ro _, _, h, _ => by simp only [plainD, Bool.false_eq_true] at h
  | .proc _, _, h, _ => by simp only [plainD, Bool.false_eq_true] at h
theorem dps_of (e : Ex H A) : ∀ (ds : List D) (vs : List V), plainDs ds = true → RpAll K C H vs ds → DpAll K A vs (toPs ds)
  | [], [], _, _ => .nil
  | [], _ :: _, _, r => by simp only [RpAll] at r
  | _ :: _, [], _, r => by simp only [RpAll] at r
  | d :: ds, v :: vs, h, r => by
    simp only [RpAll] at r
    simp only [plainDs, Bool.and_eq_true] at h
    exact .cons (dp_of e d v h.1 r.1) (dps_of e ds vs h.2 r.2)
end
end
section
variable {C : Addr} {X : Cx} {F : Fm} {δ : List SD} {a b c e : Expr} {pos : Pos}
/-- two plain data, told apart as k says -/
structure EqD (da db : D) (k : Bool) : Prop where
  p1 : plainD da = true
  p2 : plainD db = true
  s1 : SeqAt.shaped (toP da) = true
  s2 : SeqAt.shaped (toP db) = true
  eq : PyData.eqv (toP da) (toP db) = k
theorem de_eqD {da db : D} {k : Bool} (ha : DE C X a F δ da) (hb : DE C X b F δ db) (q : EqD da db k) (hu : X.A.units + 64 < cLine) : DE C X (.Compare a [.Eq] [b] pos) F δ (.bl k) :=
  pe_imp (pe_cmpR (op_eqD hu) ha hb (nomark _)) fun σ A Q ⟨M, A0, H, ea, f, s, q'⟩ => seq2 ea f s fun x y H2 A2 n r1 r2 => ⟨_, _, dp_of n.ha _ _ q.p1 r1, dp_of n.ha _ _ q.p2 r2, q.s1, q.s2, q' _ _ _ n (by rw [q.eq]; simp only [Rp])⟩
theorem dt_eqD {da db : D} {k : Bool} (ha : DE C X a F δ da) (hb : DE C X b F δ db) (q : EqD da db k) (hu : X.A.units + 64 < cLine) : DT C X (.Compare a [.Eq] [b] pos) F δ k :=
  pt_imp (pt_cmpR (op_eqD hu) ha hb (nomark _)) fun σ A Q ⟨M, A0, H, ea, f, s, q'⟩ => seq2 ea f s fun x y H2 A2 n r1 r2 => ⟨_, _, dp_of n.ha _ _ q.p1 r1, dp_of n.ha _ _ q.p2 r2, q.s1, q.s2, _, rfl, by rw [q.eq]; exact q' _ _ n⟩
theorem dt_neD {da db : D} {k : Bool} (ha : DE C X a F δ da) (hb : DE C X b F δ db) (q : EqD da db k) (hu : X.A.units + 64 < cLine) : DT C X (.Compare a [.NotEq] [b] pos) F δ (!k) :=
  pt_imp (pt_cmpR (op_neD hu) ha hb (nomark _)) fun σ A Q ⟨M, A0, H, ea, f, s, q'⟩ => seq2 ea f s fun x y H2 A2 n r1 r2 => ⟨_, _, dp_of n.ha _ _ q.p1 r1, dp_of n.ha _ _ q.p2 r2, q.s1, q.s2, _, rfl, by rw [q.eq]; exact q' _ _ n⟩
theorem toPs_ints : ∀ ns : List Int, toPs (ns.map D.int) = ns.map PyData.int
  | [] => rfl
  | n :: ns => by simp only [List.map_cons, toPs, toP, toPs_ints ns]
theorem plain_ints : ∀ ns : List Int, plainDs (ns.map D.int) = true
  | [] => rfl
  | n :: ns => by simp only [List.map_cons, plainDs, plainD, plain_ints ns, Bool.and_self]
theorem eqD_ints (ns ms : List Int) : EqD (intD ns) (intD ms) (decide (ns = ms)) := by
  unfold intD
  refine ⟨by simp only [plainD]; exact plain_ints ns, by simp only [plainD]; exact plain_ints ms, ?_, ?_, ?_⟩
  · simp only [toP, toPs_ints]; exact PySem.W.ke_shaped_ints ns
  · simp only [toP, toPs_ints]; exact PySem.W.ke_shaped_ints ms
  · simp only [toP, toPs_ints, PyData.eqv]; exact PySem.W.ked_eqvAll ns ms
/-- rows of ints -/
def rowsD (rs : List (List Int)) : D := .lst (rs.map intD)
theorem toPs_rows : ∀ rs : List (List Int), toPs (rs.map intD) = rs.map fun r => PyData.list (r.map PyData.int)
  | [] => rfl
  | r :: rs => by simp only [List.map_cons, toPs, intD, toP, toPs_ints, toPs_rows rs]
theorem plain_rows : ∀ rs : List (List Int), plainDs (rs.map intD) = true
  | [] => rfl
  | r :: rs => by simp only [List.map_cons, plainDs, intD, plainD, plain_ints, plain_rows rs, Bool.and_self]
theorem lay_rows : ∀ rs : List (List Int), PyData.canLayAll0 (rs.map fun r => PyData.list (r.map PyData.int)) = true
  | [] => rfl
  | r :: rs => by simp only [List.map_cons, PyData.canLayAll0, PyData.canLay0, PySem.W.ke_canLayAll0, lay_rows rs, Bool.and_self]
theorem depth_rows : ∀ rs : List (List Int), PyData.depthAll (rs.map fun r => PyData.list (r.map PyData.int)) ≤ 1
  | [] => Nat.zero_le _
  | r :: rs => by
    have := depth_rows rs
    simp only [List.map_cons, PyData.depthAll, PyData.depth, PySem.W.ke_depthAll]
    omega
theorem shaped_rows (rs : List (List Int)) : SeqAt.shaped (.list (rs.map fun r => PyData.list (r.map PyData.int))) = true := by
  have := depth_rows rs
  unfold SeqAt.shaped
  rw [Bool.and_eq_true]
  refine ⟨by simp only [PyData.canLay0]; exact lay_rows rs, decide_eq_true ?_⟩
  simp only [PyData.depth]
  omega
theorem eqv_rows : ∀ rs ts : List (List Int), PyData.eqvAll (rs.map fun r => PyData.list (r.map PyData.int)) (ts.map fun r => PyData.list (r.map PyData.int)) = decide (rs = ts)
  | [], [] => by simp [PyData.eqvAll]
  | [], _ :: _ => by simp [PyData.eqvAll]
  | _ :: _, [] => by simp [PyData.eqvAll]
  | a :: r, b :: t => by
    simp only [List.map_cons, PyData.eqvAll, PyData.eqv, PySem.W.ked_eqvAll, eqv_rows r t]
    by_cases h : a = b <;> by_cases h' : r = t <;> simp [h, h']
theorem eqD_rows (ns ms : List (List Int)) : EqD (rowsD ns) (rowsD ms) (decide (ns = ms)) := by
  unfold rowsD
  refine ⟨by simp only [plainD]; exact plain_rows ns, by simp only [plainD]; exact plain_rows ms, ?_, ?_, ?_⟩
  · simp only [toP, toPs_rows]; exact shaped_rows ns
  · simp only [toP, toPs_rows]; exact shaped_rows ms
  · simp only [toP, toPs_rows, PyData.eqv]; exact eqv_rows ns ms
/-! ### chains of comparisons of ints -/
theorem lift2 {da db : D} {σ : L2.St} {A : Hp} {M : Mt} {A0 H : Hp} (ha : Ex H A) (f : F.P H A) (s : Slots X.K C M A0 H A σ δ) {R : V → V → Hp → Prop} (q : ∀ x y H2 A2, Nx H A H2 A2 → Rp X.K C H2 x da → Rp X.K C H2 y db → R x y A2) :
    teD X.K C F δ da σ A fun x A1 => teD X.K C F δ db σ A1 fun y A2 => R x y A2 := seq2 ha f s q
theorem de_chain {op op' : CmpOp} {p p' : Int → Int → Bool} (ho : OpR X (compareOp op) (rI0 fun i j => .bl (p i j))) (ho' : OpR X (compareOp op') (rI0 fun i j => .bl (p' i j))) {i j k : Int} (ha : DE C X a F δ (.int i)) (hb : DE C X b F δ (.int j)) (hc : DE C X c F δ (.int k))
    (hm : lastMarks [op, op'] [b, c] = false := by with_unfolding_all rfl) : DE C X (.Compare a [op, op'] [b, c] pos) F δ (.bl (p i j && p' j k)) :=
  pe_imp (pe_chain ho ho' ha hb hc hm) fun σ A Q ⟨M, A0, H, ea, f, s, q⟩ => seq2 ea f s fun x y H2 A2 n r1 r2 => by
    simp only [Rp] at r1 r2
    refine ⟨i, j, r1, r2, p i j, rfl, ?_⟩
    cases h : p i j with
    | true => exact ⟨M, A0, H2, n.ha, F.st n f, s.nx n, fun v H3 A3 n3 r3 => by
        simp only [Rp] at r3
        exact ⟨j, k, r2, r3, q _ _ _ (n.trans n3) (by simp only [Rp, h, Bool.true_and])⟩⟩
    | false => exact q _ _ _ n (by simp only [Rp, h, Bool.false_and])
theorem dt_chain {op op' : CmpOp} {p p' : Int → Int → Bool} (ho : OpR X (compareOp op) (rI0 fun i j => .bl (p i j))) (ho' : OpR X (compareOp op') (rI0 fun i j => .bl (p' i j))) {i j k : Int} (ha : DE C X a F δ (.int i)) (hb : DE C X b F δ (.int j)) (hc : DE C X c F δ (.int k))
    (hm : lastMarks [op, op'] [b, c] = false := by with_unfolding_all rfl) : DT C X (.Compare a [op, op'] [b, c] pos) F δ (p i j && p' j k) :=
  pt_imp (pt_chain ho ho' ha hb hc hm) fun σ A Q ⟨M, A0, H, ea, f, s, q⟩ => seq2 ea f s fun x y H2 A2 n r1 r2 => by
    simp only [Rp] at r1 r2
    refine ⟨i, j, r1, r2, p i j, rfl, ?_⟩
    cases h : p i j with
    | true => exact ⟨M, A0, H2, n.ha, F.st n f, s.nx n, fun v H3 A3 n3 r3 => by
        simp only [Rp] at r3
        exact ⟨j, k, r2, r3, _, rfl, by have := q _ _ (n.trans n3); rw [h, Bool.true_and] at this; exact this⟩⟩
    | false => exact ⟨false, rfl, by have := q _ _ n; rw [h, Bool.false_and] at this; exact this⟩
/-- a op b op c op e -/
def tChain3 (r r' r'' : R2) (ta tb tc td : TE) : TE := fun σ H Q => ta σ H fun x H1 => tb σ H1 fun y H2 => r x y H2 fun z H3 => ∃ k, z = .bl k ∧
  (if k = true then tc σ H3 fun w' H4 => r' y w' H4 fun z' H5 => ∃ k', z' = .bl k' ∧ (if k' = true then td σ H5 fun w2 H6 => r'' w' w2 H6 Q else Q (.bl false) H5) else Q (.bl false) H3)
theorem pe_chain3 {op op' op'' : CmpOp} {r r' r'' : R2} {ta tb tc td : TE} (ho : OpR X (compareOp op) r) (ho' : OpR X (compareOp op') r') (ho'' : OpR X (compareOp op'') r'') (ha : PE X a ta) (hb : PE X b tb) (hc : PE X c tc) (he : PE X e td)
    (hm : lastMarks [op, op', op''] [b, c, e] = false := by with_unfolding_all rfl) : PE X (.Compare a [op, op', op''] [b, c, e] pos) (tChain3 r r' r'' ta tb tc td) := by
  refine ⟨fun pins s σ H Q I h => ?_⟩
  refine Compare_chain (thn (ha.run pins s σ H _ I h) fun v s1 ⟨x, H1, I1, r1, q1⟩ => chain_link (thn (hb.run pins s1 σ H1 _ I1 q1) fun u s2 ⟨y, H2, I2, r2, q2⟩ =>
    thn (ho pins s2 σ H2 x y v u _ I2 r1 r2 q2) fun d s3 ⟨z, H3, I3, r3, k, e, q3⟩ => ?_)) hm
  subst e
  cases r3
  refine wpAny_truthy_bool ?_
  cases k with
  | false => exact ite_ff ⟨.bl false, H3, I3, rfl, q3⟩
  | true =>
    refine ite_tt (chain_link (thn (hc.run pins s3 σ H3 _ I3 q3) fun w' s4 ⟨z', H4, I4, r4, q4⟩ => thn (ho' pins s4 σ H4 y z' u w' _ I4 r2 r4 q4) fun d' s5 ⟨z2, H5, I5, r5, k', e', q5⟩ => ?_))
    subst e'
    cases r5
    refine wpAny_truthy_bool ?_
    cases k' with
    | false => exact ite_ff ⟨.bl false, H5, I5, rfl, q5⟩
    | true => exact ite_tt (chain_last (thn (he.run pins s5 σ H5 _ I5 q5) fun w2 s6 ⟨z3, H6, I6, r6, q6⟩ => ho'' pins s6 σ H6 z' z3 w' w2 Q I6 r4 r6 q6))
theorem de_chain3 {op op' op'' : CmpOp} {p p' p'' : Int → Int → Bool} (ho : OpR X (compareOp op) (rI0 fun i j => .bl (p i j))) (ho' : OpR X (compareOp op') (rI0 fun i j => .bl (p' i j))) (ho'' : OpR X (compareOp op'') (rI0 fun i j => .bl (p'' i j))) {i j k l : Int} (ha : DE C X a F δ (.int i)) (hb : DE C X b F δ (.int j)) (hc : DE C X c F δ (.int k)) (he : DE C X e F δ (.int l))
    (hm : lastMarks [op, op', op''] [b, c, e] = false := by with_unfolding_all rfl) : DE C X (.Compare a [op, op', op''] [b, c, e] pos) F δ (.bl (p i j && (p' j k && p'' k l))) :=
  pe_imp (pe_chain3 ho ho' ho'' ha hb hc he hm) fun σ A Q ⟨M, A0, H, ea, f, s, q⟩ => seq2 ea f s fun x y H2 A2 n r1 r2 => by
    simp only [Rp] at r1 r2
    refine ⟨i, j, r1, r2, p i j, rfl, ?_⟩
    cases h : p i j with
    | true => exact ⟨M, A0, H2, n.ha, F.st n f, s.nx n, fun v H3 A3 n3 r3 => by
        simp only [Rp] at r3
        refine ⟨j, k, r2, r3, p' j k, rfl, ?_⟩
        cases h' : p' j k with
        | true => exact ⟨M, A0, H3, n3.ha, F.st n3 (F.st n f), (s.nx n).nx n3, fun v4 H4 A4 n4 r4 => by
            simp only [Rp] at r4
            exact ⟨k, l, r3, r4, q _ _ _ ((n.trans n3).trans n4) (by simp only [Rp, h, h', Bool.true_and])⟩⟩
        | false => exact q _ _ _ (n.trans n3) (by simp only [Rp, h, h', Bool.true_and, Bool.false_and])⟩
    | false => exact q _ _ _ n (by simp only [Rp, h, Bool.false_and])
end
end Sw
namespace Sw
open PySem PySem.Spec PyProof.Rows L2
theorem mulS {i j : Int} (h : -(2 ^ 60) < j ∧ j < 2 ^ 60) : IntMulOk i j := CMul.ok (.inr ⟨by omega, by omega⟩)
theorem mulT {i j : Int} (h : -(2 ^ 60) < i ∧ i < 2 ^ 60) : IntMulOk i j := CMul.ok (.inl ⟨by omega, by omega⟩)
theorem trips_len {p : Kp389.Process} (W : PWf p) : (Kp389.triples p).length ≤ 48 := by
  unfold Kp389.triples Kp389.states Kp389.actions
  rw [flat_len (n := p.actionCount * p.stateCount) (fun _ => by rw [flat_len (n := p.stateCount) (fun _ => by simp), List.length_range]), List.length_range]
  have h1 : p.actionCount * p.stateCount ≤ 3 * 4 := Nat.mul_le_mul W.m3 W.n4
  have h2 : p.stateCount * (p.actionCount * p.stateCount) ≤ 4 * 12 := Nat.mul_le_mul W.n4 h1
  omega
theorem take_map_succ {α β : Type} {g : α → β} {l : List α} {k : Nat} {a : α} (h : l[k]? = some a) : (l.take (k + 1)).map g = (l.take k).map g ++ [g a] := by
  rw [List.take_add_one, h, List.map_append]
  rfl
section
variable {P : Program} {w : World} {K : PySem.W.Frag} {mg : Str → Option Value} {base : Heap} {C : Addr} {f : Addr} {fd : FuncData}
/-- what the defs over a process lean on -/
structure PG1 (P : Program) (w : World) (K : PySem.W.Frag) (mg : Str → Option Value) (base : Heap) (C : Addr) : Prop where
  T : PTxt K C
  nR : MgN mg "range"
  reward : MetC P w K mg base 2 C "reward" (spD K C R_reward)
  wof : MetC P w K mg base 1 C "weights_of" (spD K C R_wof)
  keys : MetC P w K mg base 1 C "keys" (spD K C R_keys)
theorem nfReward : NoF "reward" := by unfold NoF; decide +kernel
theorem nfKeys : NoF "keys" := by unfold NoF; decide +kernel
theorem nfWof : NoF "weights_of" := by unfold NoF; decide +kernel
/-! ### shaped, scaled -/
def R_shaped : List D → D → Prop := fun ds d => ∃ p t l, ds = [.proc p, .int (t : Nat), intD l] ∧ PWf p ∧ t ≤ 1 ∧ l.length = p.stateCount ∧ d = intD (Kp389.shape p t l)
abbrev sShaped : Stmt := top 55
abbrev nShaped : List Str := ["process", "table", "potentials", "found", "state", "action", "later", "more"]
theorem scShaped : FnScope nShaped ["process", "table", "potentials"] (defScope sShaped) := ⟨rfl, rfl, rfl, by decide +kernel, rfl, by decide +kernel, by decide +kernel⟩
def shp (p : Kp389.Process) (t : Nat) (l : List Int) (x : Nat × Nat × Nat) : Int := Kp389.reward p t x.1 x.2.1 x.2.2 + (p.discountNum : Int) * l.getD x.2.2 0 - (p.discountDen : Int) * l.getD x.1 0
theorem ok_shaped (G : Fun K "shaped" "shaped" sShaped f fd) (g : PG1 P w K mg base C) : FnOk P w K mg base CX0 3 f fd ["process", "table", "potentials"] (spD K C R_shaped) := by
  refine pure_def G scShaped (fun ds d ⟨_, _, _, h, _⟩ => by rw [h]; rfl) fun cdv A outer s H E hr ds d h => ?_
  obtain ⟨p, t, l, rfl, W, ht, hl, rfl⟩ := h
  have hr1 : Room 1 _ := hr.mono (by decide)
  have hg := W.g1
  have hgh := W.gh
  have h10 := W.h10
  refine db_cons (ds_setN 3 (dn_lst da_nil) scShaped.nd) ?_
  refine db_cons (ds_for (ds := (Kp389.triples p).map tripD) (fun _ => F0)
    (fun k => [.dat (.proc p), .dat (.int t), .dat (intD l), .own (((Kp389.triples p).take k).map fun x => D.int (shp p t l x)), .un, .un, .un, .un])
    (fun k => [.dat (.proc p), .dat (.int t), .dat (intD l), .own (((Kp389.triples p).take k).map fun x => D.int (shp p t l x)), .dat (.int ((Kp389.triples p).getD k (0, 0, 0)).1), .dat (.int ((Kp389.triples p).getD k (0, 0, 0)).2.1), .dat (.int ((Kp389.triples p).getD k (0, 0, 0)).2.2), .un])
    (fun k => [.dat (.proc p), .dat (.int t), .dat (intD l), .own (((Kp389.triples p).take (k + 1)).map fun x => D.int (shp p t l x)), .dat (.int ((Kp389.triples p).getD k (0, 0, 0)).1), .dat (.int ((Kp389.triples p).getD k (0, 0, 0)).2.1), .dat (.int ((Kp389.triples p).getD k (0, 0, 0)).2.2), .dat (.int ((p.discountNum : Int) * l.getD ((Kp389.triples p).getD k (0, 0, 0)).2.2 0 - (p.discountDen : Int) * l.getD ((Kp389.triples p).getD k (0, 0, 0)).1 0))])
    (di_list (de_meth0 g.keys hr1 g.T.cl nfKeys (dv 0) ⟨p, rfl, W, rfl⟩)) (fun k d hd => ?_) (fun k d hd => ?_) (fun k hk => .same (.same (.same (.same (.un (.un (.un (.un .nil)))))))) PassesOwn.never) ?_
  · obtain ⟨_, rfl, _⟩ := map_get (0, 0, 0) hd
    exact dg_tup (dgs_cons (dg_name 4 scShaped.nd) (dgs_cons (dg_name 5 scShaped.nd) (dgs_cons (dg_name 6 scShaped.nd) dgs_nil)))
  · obtain ⟨hk, rfl, hx⟩ := map_get (0, 0, 0) hd
    obtain ⟨m1, m2, m3⟩ := mem_triples.mp (List.mem_of_getElem? hx)
    have hlen : (((Kp389.triples p).take k).map fun x => D.int (shp p t l x)).length ≤ 48 := by
      rw [List.length_map, List.length_take]; have := trips_len W; omega
    rw [take_map_succ hx]
    generalize (Kp389.triples p).getD k (0, 0, 0) = x at *
    refine db_to (db_cons (ds_set 7 (de_sub (de_mul (de_fld pf_top g.T.cl g.T.n3 (dv 0)) (de_ixL (dv 2) (dv 6) (int_at (getD_lt (l := l) (by omega)))) (mulL (by omega))) (de_mul (de_fld pf_bottom g.T.cl g.T.n4 (dv 0)) (de_ixL (dv 2) (dv 4) (int_at (getD_lt (l := l) (by omega)))) (mulL (by omega)))) scShaped.nd)
      (db_one (ds_append 3 (de_add (de_meth g.reward hr g.T.cl nfReward (dv 0) (da_cons (dv 1) (da_cons (dv 4) (da_cons (dv 5) (da_cons (dv 6) da_nil)))) ⟨p, t, x.1, x.2.1, x.2.2, rfl, W, ht, m1, m2, m3, rfl⟩) (dv 7)) (sz_lt hlen rfl)))) ?_
    have e : shp p t l x = Kp389.reward p t x.1 x.2.1 x.2.2 + ((p.discountNum : Int) * l.getD x.2.2 0 - (p.discountDen : Int) * l.getD x.1 0) := Int.add_sub_assoc _ _ _
    rw [e]
    rfl
  · refine db_one (ds_to (ds_retO 3) ?_)
    rw [List.length_map, List.take_length]
    unfold intD Kp389.shape shp
    rw [List.map_map]
    rfl
def R_scaled : List D → D → Prop := fun ds d => ∃ p t c, ds = [.proc p, .int (t : Nat), .int (c : Nat)] ∧ PWf p ∧ t ≤ 1 ∧ c ≤ 100 ∧ d = intD ((Kp389.rewards p t).map fun x => x * (c : Int))
abbrev sScaled : Stmt := top 56
abbrev nScaled : List Str := ["process", "table", "factor", "reward"]
theorem scScaled : FnScope nScaled ["process", "table", "factor"] (defScope sScaled) := ⟨rfl, rfl, rfl, by decide +kernel, rfl, by decide +kernel, by decide +kernel⟩
theorem PWf.nmn {p : Kp389.Process} (W : PWf p) : p.stateCount * p.actionCount * p.stateCount ≤ 48 := by
  have h1 : p.stateCount * p.actionCount ≤ 4 * 3 := Nat.mul_le_mul W.n4 W.m3
  have h2 : p.stateCount * p.actionCount * p.stateCount ≤ 12 * 4 := Nat.mul_le_mul h1 W.n4
  omega
theorem ok_scaled (G : Fun K "scaled" "scaled" sScaled f fd) (T : PTxt K C) : FnOk P w K mg base CX0 1 f fd ["process", "table", "factor"] (spD K C R_scaled) := by
  refine pure_def G scScaled (fun ds d ⟨_, _, _, h, _⟩ => by rw [h]; rfl) fun cdv A outer s H E hr ds d h => ?_
  obtain ⟨p, t, c, rfl, W, ht, hc, rfl⟩ := h
  have hn := W.nmn
  refine db_one (ds_ret (de_of (dn_lc (n := "reward") (i := 3) (di_list (de_ixL (de_fld pf_tables T.cl T.n5 (dv 0)) (dv 1) (tab_at ht))) (blkOk_by (N := nScaled) (sc := defScope sScaled) (by decide +kernel)) scScaled.nd (fun _ _ _ _ _ => pg_name (i := 3) scScaled.nd rfl (Or.inl rfl)) ?_ ?_ (fun i d e hd he s H C' cl fp => ?_))))
  · simp
  · exact sz_le (m := 48) (by rw [List.length_map, W.rlen]; exact hn) rfl
  · obtain ⟨hi, rfl, _⟩ := map_get 0 hd
    rw [List.map_map] at he
    obtain ⟨_, rfl, _⟩ := map_get 0 he
    exact de_mul (dv 3) (dv 2) (mulR (by omega))
/-! ### reduced tables -/
def R_reduced : List D → D → Prop := fun ds d => ∃ p t, ds = [.proc p, .int (t : Nat)] ∧ PWf p ∧ t ≤ 1 ∧ d = intD (redI p (Kp389.rewards p t))
abbrev sReduced : Stmt := top 10
abbrev nReduced : List Str := ["process", "table", "found", "state", "action", "later", "here", "there", "reward"]
theorem scReduced : FnScope nReduced ["process", "table"] (defScope sReduced) := ⟨rfl, rfl, rfl, by decide +kernel, rfl, by decide +kernel, by decide +kernel⟩
theorem ok_reduced (G : Fun K "reduced" "reduced" sReduced f fd) (g : PG1 P w K mg base C) : FnOk P w K mg base CX0 3 f fd ["process", "table"] (spD K C R_reduced) := by
  refine pure_def G scReduced (fun ds d ⟨_, _, h, _⟩ => by rw [h]; rfl) fun cdv A outer s H E hr ds d h => ?_
  obtain ⟨p, t, rfl, W, ht, rfl⟩ := h
  have hr1 : Room 1 _ := hr.mono (by decide)
  have hg := W.g1
  have hgh := W.gh
  have h10 := W.h10
  have hm1 := W.m1
  refine db_cons (ds_setN 2 (dn_lst da_nil) scReduced.nd) ?_
  refine db_cons (ds_for (ds := (Kp389.triples p).map tripD) (fun _ => F0)
    (fun k => [.dat (.proc p), .dat (.int t), .own (((Kp389.triples p).take k).map fun x => D.int (redT p (Kp389.rewards p t) x)), .un, .un, .un, .un, .un, .un])
    (fun k => [.dat (.proc p), .dat (.int t), .own (((Kp389.triples p).take k).map fun x => D.int (redT p (Kp389.rewards p t) x)), .dat (.int ((Kp389.triples p).getD k (0, 0, 0)).1), .dat (.int ((Kp389.triples p).getD k (0, 0, 0)).2.1), .dat (.int ((Kp389.triples p).getD k (0, 0, 0)).2.2), .un, .un, .un])
    (fun k => [.dat (.proc p), .dat (.int t), .own (((Kp389.triples p).take (k + 1)).map fun x => D.int (redT p (Kp389.rewards p t) x)), .un, .un, .un, .un, .un, .un])
    (di_list (de_meth0 g.keys hr1 g.T.cl nfKeys (dv 0) ⟨p, rfl, W, rfl⟩)) (fun k d hd => ?_) (fun k d hd => ?_) (fun k hk => .same (.same (.same (.same (.same (.same (.same (.same (.same .nil))))))))) PassesOwn.never) ?_
  · obtain ⟨_, rfl, _⟩ := map_get (0, 0, 0) hd
    exact dg_tup (dgs_cons (dg_name 3 scReduced.nd) (dgs_cons (dg_name 4 scReduced.nd) (dgs_cons (dg_name 5 scReduced.nd) dgs_nil)))
  · obtain ⟨hk, rfl, hx⟩ := map_get (0, 0, 0) hd
    obtain ⟨m1, m2, m3⟩ := mem_triples.mp (List.mem_of_getElem? hx)
    have hlen : (((Kp389.triples p).take k).map fun x => D.int (redT p (Kp389.rewards p t) x)).length ≤ 48 := by
      rw [List.length_map, List.length_take]; have := trips_len W; omega
    rw [take_map_succ hx]
    generalize (Kp389.triples p).getD k (0, 0, 0) = x at *
    refine db_forget (db_cons (ds_set 6 (de_mul (de_fld pf_bottom g.T.cl g.T.n4 (dv 0)) (de_meth g.reward hr g.T.cl nfReward (dv 0) (da_cons (dv 1) (da_cons (dv 3) (da_cons de_int (da_cons (dv 3) da_nil)))) ⟨p, t, x.1, 0, x.1, rfl, W, ht, m1, by omega, m1, rfl⟩) (mulL (by omega))) scReduced.nd)
      (db_cons (ds_set 7 (de_mul (de_fld pf_top g.T.cl g.T.n3 (dv 0)) (de_meth g.reward hr g.T.cl nfReward (dv 0) (da_cons (dv 1) (da_cons (dv 5) (da_cons de_int (da_cons (dv 5) da_nil)))) ⟨p, t, x.2.2, 0, x.2.2, rfl, W, ht, m3, by omega, m3, rfl⟩) (mulL (by omega))) scReduced.nd)
      (db_cons (ds_set 8 (de_meth g.reward hr g.T.cl nfReward (dv 0) (da_cons (dv 1) (da_cons (dv 3) (da_cons (dv 4) (da_cons (dv 5) da_nil)))) ⟨p, t, x.1, x.2.1, x.2.2, rfl, W, ht, m1, m2, m3, rfl⟩) scReduced.nd)
      (db_one (ds_append 2 (de_add (de_sub (de_mul (de_sub (de_fld pf_bottom g.T.cl g.T.n4 (dv 0)) (de_fld pf_top g.T.cl g.T.n3 (dv 0))) (dv 8) (mulLz ⟨by omega, by omega⟩)) (dv 6)) (dv 7)) (sz_lt hlen rfl)))))) ?_
    exact .same (.same (.same (.un (.un (.un (.un (.un (.un .nil))))))))
  · refine db_one (ds_to (ds_retO 2) ?_)
    rw [List.length_map, List.take_length]
    unfold intD redI
    rw [List.map_map]
    rfl
def R_equiv : List D → D → Prop := fun ds d => ∃ p, ds = [.proc p] ∧ PWf p ∧ d = .bl (Kp389.areEquivalent p)
abbrev sEquiv : Stmt := top 11
theorem scEquiv : FnScope ["process"] ["process"] (defScope sEquiv) := ⟨rfl, rfl, rfl, by decide +kernel, rfl, by decide +kernel, by decide +kernel⟩
theorem ok_equiv (G : Fun K "are_equivalent" "are_equivalent" sEquiv f fd) (gR : Cal P w K mg base 3 "reduced" (spD K C R_reduced)) : FnOk P w K mg base CX0 4 f fd ["process"] (spD K C R_equiv) := by
  refine pure_def G scEquiv (fun ds d ⟨_, h, _⟩ => by rw [h]; rfl) fun cdv A outer s H E hr ds d h => ?_
  obtain ⟨p, rfl, W, rfl⟩ := h
  refine db_one (ds_to (ds_ret (de_eqD (de_call gR hr (da_cons (dv 0) (da_cons de_int da_nil)) ⟨p, 0, rfl, W, by decide, rfl⟩) (de_call gR hr (da_cons (dv 0) (da_cons de_int da_nil)) ⟨p, 1, rfl, W, by decide, rfl⟩) (eqD_ints _ _) hr.units)) ?_)
  rw [equiv_eq W]
  rfl
def R_pots : List D → D → Prop := fun ds d => ∃ p, ds = [.proc p] ∧ PWf p ∧ d = .lst ((Kp389.potentialsOf p (Kp389.difference p)).map frD)
abbrev sPots : Stmt := top 12
abbrev nPots : List Str := ["process", "found", "state", "difference"]
theorem scPots : FnScope nPots ["process"] (defScope sPots) := ⟨rfl, rfl, rfl, by decide +kernel, rfl, by decide +kernel, by decide +kernel⟩
theorem ok_pots (G : Fun K "potentials_of" "potentials_of" sPots f fd) (g : PG1 P w K mg base C) (gL : Cal P w K mg base 2 "lowest" (spD K C R_lowest)) : FnOk P w K mg base CX0 3 f fd ["process"] (spD K C R_pots) := by
  refine pure_def G scPots (fun ds d ⟨_, h, _⟩ => by rw [h]; rfl) fun cdv A outer s H E hr ds d h => ?_
  obtain ⟨p, rfl, W, rfl⟩ := h
  have hg := W.g1
  have hgh := W.gh
  have h10 := W.h10
  have hm1 := W.m1
  have hn4 := W.n4
  have pl : (Kp389.potentialsOf p (Kp389.difference p)).length = p.stateCount := by simp [Kp389.potentialsOf, Kp389.states]
  refine db_cons (ds_setN 1 (dn_lst da_nil) scPots.nd) ?_
  refine db_cons (ds_for (ds := (List.range p.stateCount).map fun (k : Nat) => D.int (k : Int)) (fun _ => F0)
    (fun k => [.dat (.proc p), .own (((Kp389.potentialsOf p (Kp389.difference p)).take k).map frD), .un, .un])
    (fun k => [.dat (.proc p), .own (((Kp389.potentialsOf p (Kp389.difference p)).take k).map frD), .dat (.int k), .un])
    (fun k => [.dat (.proc p), .own (((Kp389.potentialsOf p (Kp389.difference p)).take (k + 1)).map frD), .un, .un])
    (di_rangeN g.nR (de_fld pf_states g.T.cl g.T.n1 (dv 0)) (by omega)) (fun k d hd => ?_) (fun k d hd => ?_) (fun k hk => .same (.same (.same (.same .nil)))) PassesOwn.never) ?_
  · obtain ⟨hk, rfl⟩ := range_get hd
    exact dg_name 2 scPots.nd
  · obtain ⟨hk, rfl⟩ := range_get hd
    have hx : (Kp389.potentialsOf p (Kp389.difference p))[k]? = some (mkQ (-(Kp389.reward p 1 k 0 k - Kp389.reward p 0 k 0 k) * (p.discountDen : Int)) ((p.discountDen : Int) - (p.discountNum : Int))) := by
      rw [List.getElem?_eq_getElem (by rw [pl]; exact hk)]
      have e := pots_get (p := p) (l := Kp389.difference p) hk
      rw [List.getD_eq_getElem?_getD, List.getElem?_eq_getElem (by rw [pl]; exact hk)] at e
      have e' : (Kp389.potentialsOf p (Kp389.difference p))[k]'(by rw [pl]; exact hk) = _ := e
      rw [e', rin_diff W hk (by omega) hk, W.subq]
      congr 1
      unfold mkQ
      have e2 : (((p.discountDen : Int) - (p.discountNum : Int) : Int) : Rat) = (p.discountDen : Rat) - (p.discountNum : Rat) := by rw [Rat.intCast_sub]; rfl
      rw [Rat.intCast_mul, Rat.intCast_neg, e2]
      have hd := W.dq
      show -(((Kp389.rewardIn p p.rewards1 k 0 k - Kp389.rewardIn p p.rewards0 k 0 k : Int)) : Rat) * ((p.discountDen : Rat) / ((p.discountDen : Rat) - (p.discountNum : Rat))) = -(((Kp389.rewardIn p p.rewards1 k 0 k - Kp389.rewardIn p p.rewards0 k 0 k : Int)) : Rat) * (p.discountDen : Rat) / ((p.discountDen : Rat) - (p.discountNum : Rat))
      generalize (p.discountDen : Rat) - (p.discountNum : Rat) = z at hd ⊢
      have : z ≠ 0 := by grind
      grind
    have hlen : (((Kp389.potentialsOf p (Kp389.difference p)).take k).map frD).length ≤ 4 := by
      rw [List.length_map, List.length_take, pl]; omega
    rw [take_map_succ hx]
    refine db_forget (db_cons (ds_set 3 (de_sub (de_meth g.reward hr g.T.cl nfReward (dv 0) (da_cons de_int (da_cons (dv 2) (da_cons de_int (da_cons (dv 2) da_nil)))) ⟨p, 1, k, 0, k, rfl, W, by decide, hk, by omega, hk, rfl⟩) (de_meth g.reward hr g.T.cl nfReward (dv 0) (da_cons de_int (da_cons (dv 2) (da_cons de_int (da_cons (dv 2) da_nil)))) ⟨p, 0, k, 0, k, rfl, W, by decide, hk, by omega, hk, rfl⟩)) scPots.nd)
      (db_one (ds_append 1 (de_call gL hr (da_cons (de_mul (de_neg (dv 3)) (de_fld pf_bottom g.T.cl g.T.n4 (dv 0)) (mulR (by omega))) (da_cons (de_sub (de_fld pf_bottom g.T.cl g.T.n4 (dv 0)) (de_fld pf_top g.T.cl g.T.n3 (dv 0))) da_nil)) ⟨_, _, rfl, by omega, ?_, rfl⟩) (sz_lt hlen rfl)))) ?_
    · refine Nat.lt_of_lt_of_le (m := 2 ^ 4) (by omega) (Nat.pow_le_pow_right (by decide) (by decide))
    · exact .same (.same (.un (.un .nil)))
  · refine db_one (ds_to (ds_retO 1) ?_)
    rw [List.length_map, List.length_range, ← pl, List.take_length]
/-! ### the factor -/
def R_first : List D → D → Prop := fun ds d => ∃ ns : List Int, ds = [intD ns] ∧ ns.length ≤ 1000 ∧ d = match ns.findIdx? (· != 0) with
  | none => .non
  | some k => .int (k : Nat)
abbrev sFirst : Stmt := top 13
abbrev nFirst : List Str := ["numbers", "k"]
theorem scFirst : FnScope nFirst ["numbers"] (defScope sFirst) := ⟨rfl, rfl, rfl, by decide +kernel, rfl, by decide +kernel, by decide +kernel⟩
theorem ok_first (G : Fun K "first_place" "first_place" sFirst f fd) (nR : MgN mg "range") (nL : MgN mg "len") : FnOk P w K mg base CX0 1 f fd ["numbers"] (spD K C R_first) := by
  refine pure_def G scFirst (fun ds d ⟨_, h, _⟩ => by rw [h]; rfl) fun cdv A outer s H E hr ds d h => ?_
  obtain ⟨ns, rfl, hl, rfl⟩ := h
  have hlen : (ns.map D.int).length = ns.length := by simp
  have tst : ∀ k, k < ns.length → atI (ns.map D.int) (k : Int) = some (.int (ns.getD k 0)) := fun k hk => int_at (getD_lt hk)
  have hi : ∀ (X : Cx), X.mg = mg → True := fun _ _ => True.intro
  cases hf : ns.findIdx? (· != 0) with
  | none =>
    rw [List.findIdx?_eq_none_iff] at hf
    refine db_cons (ds_for (ds := (List.range ns.length).map fun (k : Nat) => D.int (k : Int)) (fun _ => F0) (fun k => [.dat (intD ns), .un]) (fun k => [.dat (intD ns), .dat (.int k)]) (fun k => [.dat (intD ns), .dat (.int k)])
      (di_rangeN nR (de_is (de_len nL (dv 0)) (by rw [hlen])) (by omega)) (fun k d hd => ?_) (fun k d hd => ?_) (fun k hk => .same (.un .nil)) PassesOwn.never) (db_one (ds_ret de_non))
    · obtain ⟨hk, rfl⟩ := range_get hd
      exact dg_name 1 scFirst.nd
    · obtain ⟨hk, rfl⟩ := range_get hd
      have hz : ns.getD k 0 = 0 := by
        have := hf (ns.getD k 0) (List.mem_of_getElem? (getD_lt hk))
        simpa using this
      refine db_one (ds_if (dt_ne (de_ixL (dv 0) (dv 1) (tst k hk)) de_int) (fun h => ?_) (fun _ => db_nil))
      rw [hz] at h
      simp at h
  | some j =>
    rw [List.findIdx?_eq_some_iff_getElem] at hf
    obtain ⟨hj, h1, h2⟩ := hf
    have ej : ∀ k (hk : k < ns.length), ns.getD k 0 = ns[k] := fun k hk => by rw [List.getD_eq_getElem?_getD, List.getElem?_eq_getElem hk]; rfl
    refine db_ret (ds_forR (j := j) (ds := (List.range ns.length).map fun (k : Nat) => D.int (k : Int)) (fun _ => F0) (fun k => [.dat (intD ns), .un]) (fun k => [.dat (intD ns), .dat (.int k)]) (fun k => [.dat (intD ns), .dat (.int k)]) (by simpa using hj)
      (di_rangeN nR (de_is (de_len nL (dv 0)) (by rw [hlen])) (by omega)) (fun k d hd => ?_) (fun k d hd hkj => ?_) (fun e he => ?_) (fun k hk => .same (.un .nil)) PassesOwn.never)
    · obtain ⟨hk, rfl⟩ := range_get hd
      exact dg_name 1 scFirst.nd
    · obtain ⟨hk, rfl⟩ := range_get hd
      refine db_one (ds_if (dt_ne (de_ixL (dv 0) (dv 1) (tst k hk)) de_int) (fun h => ?_) (fun _ => db_nil))
      have := h2 k hkj
      rw [ej k hk] at h
      simp at h this
      exact absurd this h
    · obtain ⟨hk, rfl⟩ := range_get he
      refine db_one (ds_if (dt_ne (de_ixL (dv 0) (dv 1) (tst j hk)) de_int) (fun _ => db_one (ds_ret (dv 1))) (fun h => ?_))
      rw [ej j hk] at h
      simp at h h1
      exact absurd h h1
end
end Sw
namespace Sw
open PySem PySem.Spec PyProof.Rows L2
theorem red_bd {p : Kp389.Process} (W : PWf p) (t : Nat) : ∀ x ∈ redI p (Kp389.rewards p t), -5000000 ≤ x ∧ x ≤ 5000000 := fun x hx => by
  obtain ⟨y, hy, rfl⟩ := List.mem_map.mp hx
  obtain ⟨m1, m2, m3⟩ := mem_triples.mp hy
  have hm1 := W.m1
  obtain ⟨a1, a2⟩ := W.rwd t m1 m2 m3
  obtain ⟨b1, b2⟩ := W.rwd t m1 (show 0 < p.actionCount by omega) m1
  obtain ⟨c1, c2⟩ := W.rwd t m3 (show 0 < p.actionCount by omega) m3
  have hg := W.g1
  have hgh := W.gh
  have h10 := W.h10
  unfold redT
  show -5000000 ≤ ((p.discountDen : Int) - (p.discountNum : Int)) * Kp389.reward p t y.1 y.2.1 y.2.2 - (p.discountDen : Int) * Kp389.reward p t y.1 0 y.1 + (p.discountNum : Int) * Kp389.reward p t y.2.2 0 y.2.2 ∧ _
  have mb : ∀ (a : Int) (b : Int), 0 ≤ a → a ≤ 10 → -100000 ≤ b → b ≤ 100000 → -1000000 ≤ a * b ∧ a * b ≤ 1000000 := fun a b h1 h2 h3 h4 => by
    have e1 : a * b ≤ a * 100000 := Int.mul_le_mul_of_nonneg_left h4 h1
    have e2 : a * (-100000) ≤ a * b := Int.mul_le_mul_of_nonneg_left h3 h1
    omega
  obtain ⟨x1, x2⟩ := mb ((p.discountDen : Int) - (p.discountNum : Int)) _ (by omega) (by omega) a1 a2
  obtain ⟨y1, y2⟩ := mb (p.discountDen : Int) _ (by omega) (by omega) b1 b2
  obtain ⟨z1, z2⟩ := mb (p.discountNum : Int) _ (by omega) (by omega) c1 c2
  refine ⟨by omega, ?_⟩
  show ((p.discountDen : Int) - (p.discountNum : Int)) * Kp389.reward p t y.1 y.2.1 y.2.2 - (p.discountDen : Int) * Kp389.reward p t y.1 0 y.1 + (p.discountNum : Int) * Kp389.reward p t y.2.2 0 y.2.2 ≤ _
  omega
theorem red_gd {p : Kp389.Process} (W : PWf p) (t k : Nat) : -5000000 ≤ (redI p (Kp389.rewards p t)).getD k 0 ∧ (redI p (Kp389.rewards p t)).getD k 0 ≤ 5000000 := by
  by_cases h : k < (redI p (Kp389.rewards p t)).length
  · exact red_bd W t _ (List.mem_of_getElem? (getD_lt h))
  · rw [List.getD_eq_getElem?_getD, List.getElem?_eq_none (by omega)]
    simp
/-- an optional fraction -/
def optD : Option Rat → D
  | none => .non
  | some q => frD q
def R_factor : List D → D → Prop := fun ds d => ∃ p, ds = [.proc p] ∧ PWf p ∧ d = optD (Kp389.factor p)
abbrev sFactor : Stmt := top 14
abbrev nFactor : List Str := ["process", "one", "other", "place", "k"]
theorem scFactor : FnScope nFactor ["process"] (defScope sFactor) := ⟨rfl, rfl, rfl, by decide +kernel, rfl, by decide +kernel, by decide +kernel⟩
theorem frD_one : frD 1 = .tup [.int 1, .int 1] := rfl
section
variable {P : Program} {w : World} {K : PySem.W.Frag} {mg : Str → Option Value} {base : Heap} {C : Addr} {f : Addr} {fd : FuncData}
theorem ok_factor (G : Fun K "factor_of" "factor_of" sFactor f fd) (gR : Cal P w K mg base 3 "reduced" (spD K C R_reduced)) (gF : Cal P w K mg base 1 "first_place" (spD K C R_first)) (gL : Cal P w K mg base 2 "lowest" (spD K C R_lowest)) (nR : MgN mg "range") (nL : MgN mg "len") (nA : MgN mg "abs") :
    FnOk P w K mg base CX0 4 f fd ["process"] (spD K C R_factor) := by
  refine pure_def G scFactor (fun ds d ⟨_, h, _⟩ => by rw [h]; rfl) fun cdv A outer s H E hr ds d h => ?_
  obtain ⟨p, rfl, W, rfl⟩ := h
  have hr1 : Room 1 _ := hr.mono (by decide)
  have hr2 : Room 2 _ := hr.mono (by decide)
  rw [factor_eq W]
  have la : (redI p p.rewards0).length ≤ 48 := by unfold redI; rw [List.length_map]; exact trips_len W
  have lb : (redI p p.rewards1).length = (redI p p.rewards0).length := by unfold redI; rw [List.length_map, List.length_map]
  have ba := red_gd W 0
  have bb := red_gd W 1
  have r0 : Kp389.rewards p 0 = p.rewards0 := rfl
  have r1 : Kp389.rewards p 1 = p.rewards1 := rfl
  rw [r0] at ba
  rw [r1] at bb
  refine db_cons (ds_par 1 2 (de_call gR hr (da_cons (dv 0) (da_cons de_int da_nil)) ⟨p, 0, rfl, W, by decide, rfl⟩) (de_call gR hr (da_cons (dv 0) (da_cons de_int da_nil)) ⟨p, 1, rfl, W, by decide, rfl⟩) scFactor.nd) ?_
  rw [r0, r1]
  generalize redI p p.rewards0 = A at *
  generalize redI p p.rewards1 = B at *
  refine db_cons (ds_set 3 (de_call gF hr1 (da_cons (dv 1) da_nil) ⟨A, rfl, by omega, rfl⟩) scFactor.nd) ?_
  have ait : ∀ k, k < A.length → atI (A.map D.int) (k : Int) = some (.int (A.getD k 0)) := fun k hk => int_at (getD_lt hk)
  have bit : ∀ k, k < A.length → atI (B.map D.int) (k : Int) = some (.int (B.getD k 0)) := fun k hk => int_at (getD_lt (by omega))
  cases hf : A.findIdx? (· != 0) with
  | none =>
    refine db_if (k := true) (dt_isN (dv 3)) (fun _ => ⟨F0, _, rfl, ?_⟩) (fun h => by cases h)
    unfold facI
    rw [hf]
    simp only []
    refine db_one (ds_ret ?_)
    cases hg : B.findIdx? (· != 0) with
    | none => exact de_ife (k := true) (dt_isN (de_call gF hr1 (da_cons (dv 2) da_nil) ⟨B, rfl, by omega, by rw [hg]⟩)) (fun _ => de_is (de_tup (da_cons de_int (da_cons de_int da_nil))) frD_one.symm) (fun h => by cases h)
    | some j => exact de_ife (k := false) (dt_isN (de_call gF hr1 (da_cons (dv 2) da_nil) ⟨B, rfl, by omega, by rw [hg]⟩)) (fun h => by cases h) (fun _ => de_non)
  | some j =>
    have hf' := hf
    rw [List.findIdx?_eq_some_iff_getElem] at hf
    obtain ⟨hj, h1, _⟩ := hf
    refine db_if (k := false) (dt_isN (dv 3)) (fun h => by cases h) (fun _ => ?_)
    unfold facI
    rw [hf']
    simp only []
    have hm : IntMulOk (A.getD j 0) (B.getD j 0) := mulS ⟨by have := bb j; omega, by have := bb j; omega⟩
    refine db_if (dt_le (de_mul (de_ixL (dv 1) (dv 3) (ait j hj)) (de_ixL (dv 2) (dv 3) (bit j hj)) hm) de_int) (fun h => ⟨F0, _, rfl, ?_⟩) (fun h => ?_)
    · rw [if_pos (of_decide_eq_true h)]
      exact db_one (ds_ret de_non)
    · have c := of_decide_eq_false h
      rw [if_neg c]
      have tst : ∀ (X : Cx), X.mg = mg → True := fun _ _ => True.intro
      by_cases hall : ∀ k, k < A.length → A.getD k 0 * B.getD j 0 = B.getD k 0 * A.getD j 0
      · rw [if_pos hall]
        refine db_cons (ds_for (ds := (List.range A.length).map fun (k : Nat) => D.int (k : Int)) (fun _ => F0) (fun k => [.dat (.proc p), .dat (intD A), .dat (intD B), .dat (.int j), .un]) (fun k => [.dat (.proc p), .dat (intD A), .dat (intD B), .dat (.int j), .dat (.int k)]) (fun k => [.dat (.proc p), .dat (intD A), .dat (intD B), .dat (.int j), .dat (.int k)])
          (di_rangeN nR (de_is (de_len nL (dv 1)) (by rw [List.length_map])) (by omega)) (fun k d hd => ?_) (fun k d hd => ?_) (fun k hk => .same (.same (.same (.same (.un .nil))))) PassesOwn.never) ?_
        · obtain ⟨hk, rfl⟩ := range_get hd
          exact dg_name 4 scFactor.nd
        · obtain ⟨hk, rfl⟩ := range_get hd
          refine db_one (ds_if (dt_ne (de_mul (de_ixL (dv 1) (dv 4) (ait k hk)) (de_ixL (dv 2) (dv 3) (bit j hj)) (mulS ⟨by have := bb j; omega, by have := bb j; omega⟩)) (de_mul (de_ixL (dv 2) (dv 4) (bit k hk)) (de_ixL (dv 1) (dv 3) (ait j hj)) (mulS ⟨by have := ba j; omega, by have := ba j; omega⟩))) (fun h => ?_) (fun _ => db_nil))
          rw [hall k hk] at h
          simp at h
        · have hA0 : A.getD j 0 ≠ 0 := fun z => c (by rw [z, Int.zero_mul]; exact Int.le_refl _)
          refine db_one (ds_to (ds_ret (de_call gL hr2 (da_cons (de_abs nA (de_ixL (dv 2) (dv 3) (bit j hj))) (da_cons (de_abs nA (de_ixL (dv 1) (dv 3) (ait j hj))) da_nil)) ⟨_, _, rfl, by omega, ?_, rfl⟩)) ?_)
          · have := ba j
            rw [Int.natAbs_natCast]
            refine Nat.lt_of_lt_of_le (m := 2 ^ 30) (by omega) (Nat.pow_le_pow_right (by decide) (by decide))
          · rfl
      · rw [if_neg hall]
        have : ∃ k, k < A.length ∧ A.getD k 0 * B.getD j 0 ≠ B.getD k 0 * A.getD j 0 := by
          refine Classical.byContradiction fun z => hall fun k hk => Classical.byContradiction fun y => z ⟨k, hk, y⟩
        obtain ⟨n, hn, hd1, hd2⟩ : ∃ n, n < A.length ∧ A.getD n 0 * B.getD j 0 ≠ B.getD n 0 * A.getD j 0 ∧ ∀ k, k < n → A.getD k 0 * B.getD j 0 = B.getD k 0 * A.getD j 0 := by
          obtain ⟨k, hk, hne⟩ := this
          induction k using Nat.strongRecOn with
          | ind k ih =>
            by_cases z : ∃ i, i < k ∧ A.getD i 0 * B.getD j 0 ≠ B.getD i 0 * A.getD j 0
            · obtain ⟨i, hi, hne'⟩ := z
              exact ih i hi (by omega) hne'
            · exact ⟨k, hk, hne, fun i hi => Classical.byContradiction fun y => z ⟨i, hi, y⟩⟩
        refine db_ret (ds_forR (j := n) (ds := (List.range A.length).map fun (k : Nat) => D.int (k : Int)) (fun _ => F0) (fun k => [.dat (.proc p), .dat (intD A), .dat (intD B), .dat (.int j), .un]) (fun k => [.dat (.proc p), .dat (intD A), .dat (intD B), .dat (.int j), .dat (.int k)]) (fun k => [.dat (.proc p), .dat (intD A), .dat (intD B), .dat (.int j), .dat (.int k)]) (by simpa using hn)
          (di_rangeN nR (de_is (de_len nL (dv 1)) (by rw [List.length_map])) (by omega)) (fun k d hd => ?_) (fun k d hd hkn => ?_) (fun e he => ?_) (fun k hk => .same (.same (.same (.same (.un .nil))))) PassesOwn.never)
        · obtain ⟨hk, rfl⟩ := range_get hd
          exact dg_name 4 scFactor.nd
        · obtain ⟨hk, rfl⟩ := range_get hd
          refine db_one (ds_if (dt_ne (de_mul (de_ixL (dv 1) (dv 4) (ait k hk)) (de_ixL (dv 2) (dv 3) (bit j hj)) (mulS ⟨by have := bb j; omega, by have := bb j; omega⟩)) (de_mul (de_ixL (dv 2) (dv 4) (bit k hk)) (de_ixL (dv 1) (dv 3) (ait j hj)) (mulS ⟨by have := ba j; omega, by have := ba j; omega⟩))) (fun h => ?_) (fun _ => db_nil))
          rw [hd2 k hkn] at h
          simp at h
        · obtain ⟨hk, rfl⟩ := range_get he
          refine db_one (ds_if (dt_ne (de_mul (de_ixL (dv 1) (dv 4) (ait n hn)) (de_ixL (dv 2) (dv 3) (bit j hj)) (mulS ⟨by have := bb j; omega, by have := bb j; omega⟩)) (de_mul (de_ixL (dv 2) (dv 4) (bit n hn)) (de_ixL (dv 1) (dv 3) (ait j hj)) (mulS ⟨by have := ba j; omega, by have := ba j; omega⟩))) (fun _ => db_one (ds_ret de_non)) (fun h => ?_))
          simp at h
          exact absurd h hd1
end
end Sw
namespace Sw
open PySem PySem.Spec PyProof.Rows L2
theorem cut_to (ds : List D) {k : Nat} (h : k ≤ ds.length) : cutD ds none (some (k : Int)) = ds.take k := by
  unfold cutD
  rw [HT.sIx_none, HT.sIx_nat, Nat.min_eq_left h]
  simp
theorem cut_from (ds : List D) {k : Nat} (h : k ≤ ds.length) : cutD ds (some (k : Int)) none = ds.drop k := by
  unfold cutD
  rw [HT.sIx_none, HT.sIx_nat, Nat.min_eq_left h]
  rw [List.take_of_length_le (by rw [List.length_drop]; omega)]
theorem cut_ft (ds : List D) {j k : Nat} (h : j ≤ k) (h2 : k ≤ ds.length) : cutD ds (some (j : Int)) (some (k : Int)) = (ds.drop j).take (k - j) := by
  unfold cutD
  rw [HT.sIx_nat, HT.sIx_nat, Nat.min_eq_left h2, Nat.min_eq_left (Nat.le_trans h h2)]
theorem wI_get {p : Kp389.Process} (W : PWf p) {s a q : Nat} (hs : s < p.stateCount) (ha : a < p.actionCount) (hq : q < p.stateCount) : (wI p s a)[q]? = some (wt p s a q) := by
  unfold wI wt
  rw [List.getElem?_map, List.getD_eq_getElem?_getD, List.getElem?_eq_getElem (by rw [W.wlen hs ha]; exact hq)]
  rfl
theorem wI_len {p : Kp389.Process} (W : PWf p) {s a : Nat} (hs : s < p.stateCount) (ha : a < p.actionCount) : (wI p s a).length = p.stateCount := by
  unfold wI; rw [List.length_map, W.wlen hs ha]
theorem wI_sum (p : Kp389.Process) (s a : Nat) : (wI p s a).sum = wsum p s a := by
  unfold wI wsum
  generalize Kp389.weights p s a = l
  induction l with
  | nil => rfl
  | cons x l ih => rw [List.map_cons, List.sum_cons, List.sum_cons, ih]; omega
theorem wt_le {p : Kp389.Process} (W : PWf p) {s a : Nat} (hs : s < p.stateCount) (ha : a < p.actionCount) (q : Nat) : 0 ≤ wt p s a q ∧ wt p s a q ≤ 9 := by
  refine ⟨wt_nonneg p s a q, ?_⟩
  unfold wt
  by_cases h : q < (Kp389.weights p s a).length
  · have := W.wle hs ha ((Kp389.weights p s a).getD q 0) (by rw [List.getD_eq_getElem?_getD, List.getElem?_eq_getElem h]; exact List.getElem_mem h)
    omega
  · rw [List.getD_eq_getElem?_getD, List.getElem?_eq_none (by omega)]
    simp
theorem sum_le9 : ∀ (l : List Nat), (∀ x ∈ l, x ≤ 9) → l.sum ≤ 9 * l.length
  | [], _ => by simp
  | a :: l, h => by
    have h1 := h a List.mem_cons_self
    have h2 := sum_le9 l fun x hx => h x (List.mem_cons_of_mem _ hx)
    rw [List.sum_cons, List.length_cons]; omega
theorem wsum_le {p : Kp389.Process} (W : PWf p) {s a : Nat} (hs : s < p.stateCount) (ha : a < p.actionCount) : 0 < wsum p s a ∧ wsum p s a ≤ 36 := by
  refine ⟨W.wsum_pos hs ha, ?_⟩
  have h1 := sum_le9 _ (W.wle hs ha)
  rw [W.wlen hs ha] at h1
  have := W.n4
  unfold wsum
  omega
section
variable {P : Program} {w : World} {K : PySem.W.Frag} {mg : Str → Option Value} {base : Heap} {C : Addr} {f : Addr} {fd : FuncData}
/-! ### the equations -/
def R_eqn : List D → D → Prop := fun ds d => ∃ p s a, ds = [.proc p, .int (s : Nat), .int (a : Nat)] ∧ PWf p ∧ s < p.stateCount ∧ a < p.actionCount ∧ d = intD ((List.range p.stateCount).map (eqE p s a))
abbrev sEqn : Stmt := top 16
abbrev nEqn : List Str := ["process", "state", "action", "weights", "found", "weight"]
theorem scEqn : FnScope nEqn ["process", "state", "action"] (defScope sEqn) := ⟨rfl, rfl, rfl, by decide +kernel, rfl, by decide +kernel, by decide +kernel⟩
theorem ok_eqn (G : Fun K "equation" "equation" sEqn f fd) (g : PG1 P w K mg base C) (nS : MgN mg "sum") : FnOk P w K mg base CX0 2 f fd ["process", "state", "action"] (spD K C R_eqn) := by
  refine pure_def G scEqn (fun ds d ⟨_, _, _, h, _⟩ => by rw [h]; rfl) fun cdv A outer s' H E hr ds d h => ?_
  obtain ⟨p, s, a, rfl, W, hs, ha, rfl⟩ := h
  have hg := W.g1
  have hgh := W.gh
  have h10 := W.h10
  have hn4 := W.n4
  have wl := wI_len W hs ha
  refine db_cons (ds_set 3 (de_meth g.wof hr g.T.cl nfWof (dv 0) (da_cons (dv 1) (da_cons (dv 2) da_nil)) ⟨p, s, a, rfl, W, hs, ha, rfl⟩) scEqn.nd) ?_
  refine db_cons (ds_setLcN 4 (n := "weight") (t := 5) (ds := (wI p s a).map D.int) (es := (wI p s a).map fun x => D.int (-(p.discountNum : Int) * x)) (di_list (dv 3)) (blkOk_by (N := nEqn) (sc := defScope sEqn) (by decide +kernel)) scEqn.nd (fun _ _ _ _ _ => pg_name (i := 5) scEqn.nd rfl (Or.inl rfl)) (by simp) (sz_le (m := 4) (by rw [List.length_map, wl]; exact hn4) rfl) (fun k d e hd he s H C' cl fp => ?_)) ?_
  · obtain ⟨_, rfl, _⟩ := map_get 0 hd
    obtain ⟨_, rfl, _⟩ := map_get 0 he
    exact de_mul (de_neg (de_fld pf_top g.T.cl g.T.n3 (dv 0))) (dv 5) (mulLz ⟨by omega, by omega⟩)
  · have hix : ixN ((wI p s a).map fun x => D.int (-(p.discountNum : Int) * x)).length (s : Int) = some s := by
      unfold ixN
      rw [List.length_map, wl, if_pos (by omega), if_pos (by omega), Int.toNat_natCast]
    have hat : ((wI p s a).map fun x => D.int (-(p.discountNum : Int) * x))[s]? = some (D.int (-(p.discountNum : Int) * wt p s a s)) := by
      rw [List.getElem?_map, wI_get W hs ha hs]; rfl
    refine db_cons (ds_augIx 4 (dv 1) (de_mul (de_fld pf_bottom g.T.cl g.T.n4 (dv 0)) (de_sum nS (dv 3)) (mulL (by omega))) hix hat) (db_one (ds_to (ds_retO 4) ?_))
    congr 1
    unfold intD
    congr 1
    rw [List.map_map]
    apply List.ext_getElem?
    intro i
    by_cases hi : i < p.stateCount
    · by_cases his : i = s
      · subst his
        rw [List.getElem?_set_self (by rw [List.length_map, wl]; exact hi), List.getElem?_map, List.getElem?_range hi]
        simp only [Option.map_some, Function.comp, eqE, if_true]
        rw [wI_sum]
        congr 2
        rw [Int.neg_mul]; omega
      · rw [List.getElem?_set_ne (Ne.symm his), List.getElem?_map, List.getElem?_map, List.getElem?_range hi, wI_get W hs ha hi]
        simp only [Option.map_some, Function.comp, eqE, if_neg his]
        congr 2
        rw [Int.neg_mul]; omega
    · rw [List.getElem?_eq_none (by rw [List.length_set, List.length_map, wl]; omega), List.getElem?_eq_none (by rw [List.length_map, List.length_range]; omega)]
def R_rs : List D → D → Prop := fun ds d => ∃ p t s a, ds = [.proc p, .int (t : Nat), .int (s : Nat), .int (a : Nat)] ∧ PWf p ∧ t ≤ 1 ∧ s < p.stateCount ∧ a < p.actionCount ∧ d = .int (sideI p t s a)
abbrev sRs : Stmt := top 17
abbrev nRs : List Str := ["process", "table", "state", "action", "weights", "total", "later"]
theorem scRs : FnScope nRs ["process", "table", "state", "action"] (defScope sRs) := ⟨rfl, rfl, rfl, by decide +kernel, rfl, by decide +kernel, by decide +kernel⟩
theorem ok_rs (G : Fun K "right_side" "right_side" sRs f fd) (g : PG1 P w K mg base C) : FnOk P w K mg base CX0 3 f fd ["process", "table", "state", "action"] (spD K C R_rs) := by
  refine pure_def G scRs (fun ds d ⟨_, _, _, _, h, _⟩ => by rw [h]; rfl) fun cdv A outer s' H E hr ds d h => ?_
  obtain ⟨p, t, s, a, rfl, W, ht, hs, ha, rfl⟩ := h
  have hr1 : Room 1 _ := hr.mono (by decide)
  have hg := W.g1
  have hgh := W.gh
  have h10 := W.h10
  have hn4 := W.n4
  refine db_cons (ds_set 4 (de_meth g.wof hr1 g.T.cl nfWof (dv 0) (da_cons (dv 2) (da_cons (dv 3) da_nil)) ⟨p, s, a, rfl, W, hs, ha, rfl⟩) scRs.nd) (db_cons (ds_set 5 de_int scRs.nd) ?_)
  refine db_cons (ds_for (ds := (List.range p.stateCount).map fun (k : Nat) => D.int (k : Int)) (fun _ => F0)
    (fun k => [.dat (.proc p), .dat (.int t), .dat (.int s), .dat (.int a), .dat (intD (wI p s a)), .dat (.int (sumZ k fun q => wt p s a q * Kp389.reward p t s a q)), .un])
    (fun k => [.dat (.proc p), .dat (.int t), .dat (.int s), .dat (.int a), .dat (intD (wI p s a)), .dat (.int (sumZ k fun q => wt p s a q * Kp389.reward p t s a q)), .dat (.int k)])
    (fun k => [.dat (.proc p), .dat (.int t), .dat (.int s), .dat (.int a), .dat (intD (wI p s a)), .dat (.int (sumZ (k + 1) fun q => wt p s a q * Kp389.reward p t s a q)), .dat (.int k)])
    (di_rangeN g.nR (de_fld pf_states g.T.cl g.T.n1 (dv 0)) (by omega)) (fun k d hd => ?_) (fun k d hd => ?_) (fun k hk => .same (.same (.same (.same (.same (.same (.un .nil))))))) PassesOwn.never) ?_
  · obtain ⟨hk, rfl⟩ := range_get hd
    exact dg_name 6 scRs.nd
  · obtain ⟨hk, rfl⟩ := range_get hd
    have w9 := wt_le W hs ha k
    exact db_to (db_one (ds_aug 5 (de_mul (de_ixL (dv 4) (dv 6) (int_at (wI_get W hs ha hk))) (de_meth g.reward hr g.T.cl nfReward (dv 0) (da_cons (dv 1) (da_cons (dv 2) (da_cons (dv 3) (da_cons (dv 6) da_nil)))) ⟨p, t, s, a, k, rfl, W, ht, hs, ha, hk, rfl⟩) (mulLz ⟨by omega, by omega⟩)) scRs.nd)) rfl
  · refine db_one (ds_to (ds_ret (de_mul (de_fld pf_bottom g.T.cl g.T.n4 (dv 0)) (dv 5) (mulL (by omega)))) ?_)
    rw [List.length_map, List.length_range]
    rfl
/-! ### determinants -/
def R_wo : List D → D → Prop := fun ds d => ∃ (r : List Int) (k : Nat), ds = [intD r, .int k] ∧ k < r.length ∧ r.length ≤ 4 ∧ d = intD (without r k)
abbrev sWo : Stmt := top 18
theorem scWo : FnScope ["row", "place"] ["row", "place"] (defScope sWo) := ⟨rfl, rfl, rfl, by decide +kernel, rfl, by decide +kernel, by decide +kernel⟩
theorem ok_wo (G : Fun K "without" "without" sWo f fd) : FnOk P w K mg base CX0 1 f fd ["row", "place"] (spD K C R_wo) := by
  refine pure_def G scWo (fun ds d ⟨_, _, h, _⟩ => by rw [h]; rfl) fun cdv A outer s H E hr ds d h => ?_
  obtain ⟨r, k, rfl, hk, hl, rfl⟩ := h
  have hk1 : ((k : Int) + 1) = ((k + 1 : Nat) : Int) := by omega
  have e1 : cutD (r.map D.int) none (some (k : Int)) = (r.take k).map D.int := by rw [cut_to _ (by rw [List.length_map]; omega), List.map_take]
  have e2 : cutD (r.map D.int) (some ((k : Int) + 1)) none = (r.drop (k + 1)).map D.int := by rw [hk1, cut_from _ (by rw [List.length_map]; omega), List.map_drop]
  refine db_one (ds_to (ds_ret (de_of (dn_cat (de_of (dn_is (dn_slL (dv 0) do_none (do_some (dv 1))) e1)) (de_of (dn_is (dn_slL (dv 0) (do_some (de_add (dv 1) de_int)) do_none) e2)) (sz_le (m := 100) ?_ rfl)))) ?_)
  · simp only [List.length_map, List.length_take, List.length_drop]; omega
  · unfold intD without
    rw [List.map_append]
/-- a square of ints -/
structure Sq (m : Nat) (rows : List (List Int)) : Prop where
  len : rows.length = m
  row : ∀ r ∈ rows, r.length = m
  bd : ∀ r ∈ rows, ∀ x ∈ r, -(2 ^ 50) < x ∧ x < 2 ^ 50
def R_det (m : Nat) : List D → D → Prop := fun ds d => ∃ rows : List (List Int), ds = [rowsD rows] ∧ Sq m rows ∧ d = .int (det m rows)
abbrev sDet : Stmt := top 19
abbrev nDet : List Str := ["rows", "total", "sign", "place", "row"]
theorem scDet : FnScope nDet ["rows"] (defScope sDet) := ⟨rfl, rfl, rfl, by decide +kernel, rfl, by decide +kernel, by decide +kernel⟩
theorem sgn_succ (k : Nat) : sgn (k + 1) = -sgn k := by
  unfold sgn
  by_cases h : k % 2 = 0
  · rw [if_pos h, if_neg (by omega)]
  · rw [if_neg h, if_pos (by omega)]; rfl
theorem Sq.minor {m : Nat} {rows : List (List Int)} (h : Sq (m + 1) rows) (k : Nat) (hk : k < m + 1) : Sq m (rows.tail.map fun r => without r k) := by
  have wl : ∀ r ∈ rows, (without r k).length = m := fun r hr => by
    have := h.row r hr
    unfold without
    simp only [List.length_append, List.length_take, List.length_drop]; omega
  refine ⟨by rw [List.length_map, List.length_tail, h.len]; rfl, fun r hr => ?_, fun r hr x hx => ?_⟩
  · obtain ⟨r', hr', rfl⟩ := List.mem_map.mp hr
    exact wl r' (List.mem_of_mem_tail hr')
  · obtain ⟨r', hr', rfl⟩ := List.mem_map.mp hr
    refine h.bd r' (List.mem_of_mem_tail hr') x ?_
    unfold without at hx
    rcases List.mem_append.mp hx with hx | hx
    · exact List.mem_of_mem_take hx
    · exact List.mem_of_mem_drop hx
theorem ok_det (G : Fun K "determinant" "determinant" sDet f fd) (hmg : mg "determinant" = some (.ref f)) (hb : L2.Binds K fd ["rows"] []) (gW : Cal P w K mg base 1 "without" (spD K C R_wo)) (nR : MgN mg "range") (nL : MgN mg "len") :
    ∀ m, m ≤ 4 → FnOk P w K mg base CX0 (m + 2) f fd ["rows"] (spD K C (R_det m)) := by
  intro m
  induction m with
  | zero =>
    intro _
    refine pure_def G scDet (fun ds d ⟨_, h, _⟩ => by rw [h]; rfl) fun cdv A outer s H E hr ds d h => ?_
    obtain ⟨rows, rfl, S, rfl⟩ := h
    have e : rows = [] := List.length_eq_zero_iff.mp S.len
    subst e
    exact db_if (k := true) (dt_is (dt_eqD (dv 0) (de_of (dn_lst da_nil)) (eqD_rows [] []) hr.units) rfl) (fun _ => ⟨F0, _, rfl, db_one (ds_ret de_int)⟩) (fun h => by cases h)
  | succ m ih =>
    intro hm4
    have F := ih (by omega)
    have gD : Cal P w K mg base (m + 2) "determinant" (spD K C (R_det m)) := ⟨f, fd, _, F, hmg, G.kp, hb⟩
    refine pure_def G scDet (fun ds d ⟨_, h, _⟩ => by rw [h]; rfl) fun cdv A outer s H E hr ds d h => ?_
    obtain ⟨rows, rfl, S, rfl⟩ := h
    have hr1 : Room 1 _ := hr.mono (by omega)
    have hne : rows ≠ [] := fun z => by have := S.len; rw [z] at this; simp at this
    have h0 : rows[0]? = some (rows.getD 0 []) := by
      rw [List.getD_eq_getElem?_getD, List.getElem?_eq_getElem (by rw [S.len]; omega)]; rfl
    have hm0 : rows.getD 0 [] ∈ rows := List.mem_of_getElem? h0
    have l0 := S.row _ hm0
    have b0 : ∀ k, -(2 ^ 50) < (rows.getD 0 []).getD k 0 ∧ (rows.getD 0 []).getD k 0 < 2 ^ 50 := fun k => by
      by_cases hk : k < (rows.getD 0 []).length
      · exact S.bd _ hm0 _ (List.mem_of_getElem? (getD_lt hk))
      · rw [List.getD_eq_getElem?_getD (l := rows.getD 0 []), List.getElem?_eq_none (by omega)]
        decide
    have sg : ∀ k, sgn k = 1 ∨ sgn k = -1 := fun k => by unfold sgn; split <;> simp
    refine db_if (k := false) (dt_is (dt_eqD (dv 0) (de_of (dn_lst da_nil)) (eqD_rows rows []) hr.units) (by simp [hne])) (fun h => by cases h) (fun _ => ?_)
    refine db_cons (ds_asg (de_tup (da_cons de_int (da_cons de_int da_nil))) (dg_tup (dgs_cons (dg_name 1 scDet.nd) (dgs_cons (dg_name 2 scDet.nd) dgs_nil)))) ?_
    refine db_cons (ds_for (ds := (List.range (m + 1)).map fun (k : Nat) => D.int (k : Int)) (fun _ => F0)
      (fun k => [.dat (rowsD rows), .dat (.int (sumZ k fun k => sgn k * ((rows.getD 0 []).getD k 0) * det m (rows.tail.map fun r => without r k))), .dat (.int (sgn k)), .un, .un])
      (fun k => [.dat (rowsD rows), .dat (.int (sumZ k fun k => sgn k * ((rows.getD 0 []).getD k 0) * det m (rows.tail.map fun r => without r k))), .dat (.int (sgn k)), .dat (.int k), .un])
      (fun k => [.dat (rowsD rows), .dat (.int (sumZ (k + 1) fun k => sgn k * ((rows.getD 0 []).getD k 0) * det m (rows.tail.map fun r => without r k))), .dat (.int (sgn (k + 1))), .dat (.int k), .un])
      (di_rangeN nR (de_is (de_len nL (dv 0)) (by rw [List.length_map, S.len])) (by omega)) (fun k d hd => ?_) (fun k d hd => ?_) (fun k hk => .same (.same (.same (.un (.un .nil))))) PassesOwn.never) ?_
    · obtain ⟨hk, rfl⟩ := range_get hd
      exact dg_name 3 scDet.nd
    · obtain ⟨hk, rfl⟩ := range_get hd
      have row0 : atI (rows.map intD) 0 = some (intD (rows.getD 0 [])) := atI_nat (j := 0) (by rw [List.getElem?_map, h0]; rfl)
      have it : atI ((rows.getD 0 []).map D.int) (k : Int) = some (.int ((rows.getD 0 []).getD k 0)) := int_at (getD_lt (by omega))
      have e1 : cutD (rows.map intD) (some 1) none = rows.tail.map intD := by
        have := cut_from (rows.map intD) (k := 1) (by rw [List.length_map, S.len]; omega)
        rw [show ((1 : Nat) : Int) = 1 from rfl] at this
        rw [this, List.drop_one, List.map_tail]
      have body : ∀ z : Int, z = sumZ (k + 1) (fun k => sgn k * ((rows.getD 0 []).getD k 0) * det m (rows.tail.map fun r => without r k)) → True := fun _ _ => True.intro
      by_cases hz : (rows.getD 0 []).getD k 0 = 0
      · refine db_to (db_cons (ds_if (k := false) (o := .nx F0 _) (dt_is (dt_ne (de_ixL (de_ixL (dv 0) de_int row0) (dv 3) it) de_int) (by rw [hz]; rfl)) (fun h => by cases h) (fun _ => db_nil)) (db_one (ds_set 2 (de_neg (dv 2)) scDet.nd))) ?_
        rw [sgn_succ]
        show Out.nx F0 [_, _, _, _, _] = Out.nx F0 [_, _, _, _, _]
        simp only [sumZ, hz, Int.mul_zero, Int.zero_mul, Int.add_zero]
      · have ts : (rows.tail).length = m := by rw [List.length_tail, S.len]; rfl
        refine db_to (db_cons (ds_if (k := true) (o := .nx F0 [.dat (rowsD rows), .dat (.int (sumZ (k + 1) fun k => sgn k * ((rows.getD 0 []).getD k 0) * det m (rows.tail.map fun r => without r k))), .dat (.int (sgn k)), .dat (.int k), .un]) (dt_is (dt_ne (de_ixL (de_ixL (dv 0) de_int row0) (dv 3) it) de_int) (by simp only [hz, decide_false, Bool.not_false])) (fun _ => ?_) (fun h => by cases h)) (db_one (ds_set 2 (de_neg (dv 2)) scDet.nd))) ?_
        · refine db_to (db_one (ds_aug 1 (de_mul (de_mul (dv 2) (de_ixL (de_ixL (dv 0) de_int row0) (dv 3) it) (mulLz (by rcases sg k with z | z <;> rw [z] <;> decide))) (de_call gD hr (da_cons (de_of (dn_lc (n := "row") (i := 4) (es := (rows.tail.map fun r => without r k).map intD) (di_list (de_of (dn_is (dn_slL (dv 0) (do_some de_int) do_none) e1))) (blkOk_by (N := nDet) (sc := defScope sDet) (by decide +kernel)) scDet.nd (fun _ _ _ _ _ => pg_name (i := 4) scDet.nd rfl (Or.inl rfl)) ?_ ?_ (fun i d e hd he s H C' cl fp => ?_))) da_nil) ⟨_, rfl, S.minor k hk, rfl⟩) (mulT ?_)) scDet.nd)) rfl
          · simp
          · exact sz_le (m := 4) (by rw [List.length_map, ts]; omega) rfl
          · obtain ⟨hi, rfl, hri⟩ := map_get [] hd
            rw [List.map_map] at he
            obtain ⟨_, rfl, _⟩ := map_get [] he
            have hmem := List.mem_of_mem_tail (List.mem_of_getElem? hri)
            have hrl := S.row _ hmem
            exact de_call gW hr1 (da_cons (dv 4) (da_cons (dv 3) da_nil)) ⟨_, k, rfl, by omega, by omega, rfl⟩
          · have := b0 k
            rcases sg k with z | z <;> rw [z] <;> omega
        · rw [sgn_succ]
          rfl
    · refine db_one (ds_to (ds_ret (dv 1)) ?_)
      rw [List.length_map, List.length_range]
      rfl
end
end Sw
namespace Sw
open PySem PySem.Spec PyProof.Rows L2
theorem natI {l : List Nat} {i : Nat} (h : i < l.length) : (l.map fun (x : Nat) => (x : Int))[i]? = some ((l.getD i 0 : Nat) : Int) := by
  rw [List.getElem?_map, List.getD_eq_getElem?_getD, List.getElem?_eq_getElem h]; rfl
def natD (l : List Nat) : D := intD (l.map fun (x : Nat) => (x : Int))
/-- all squares of at most four rows -/
def R_detA : List D → D → Prop := fun ds d => ∃ m, m ≤ 4 ∧ R_det m ds d
def withCol (k : Nat) (r : List Int) (x : Int) : List Int := r.take k ++ [x] ++ r.drop (k + 1)
def R_wcol : List D → D → Prop := fun ds d => ∃ (rows : List (List Int)) (k : Nat) (col : List Int), ds = [rowsD rows, .int (k : Nat), intD col] ∧ rows.length = col.length ∧ rows.length ≤ 4 ∧ (∀ r ∈ rows, k < r.length ∧ r.length ≤ 4) ∧ d = rowsD (List.zipWith (withCol k) rows col)
abbrev sWcol : Stmt := top 20
abbrev nWcol : List Str := ["rows", "place", "column", "row", "number"]
theorem scWcol : FnScope nWcol ["rows", "place", "column"] (defScope sWcol) := ⟨rfl, rfl, rfl, by decide +kernel, rfl, by decide +kernel, by decide +kernel⟩
theorem zip_map {α β γ : Type} (f : α → β → γ) : ∀ (l : List α) (k : List β), List.zipWith f l k = (l.zip k).map fun p => f p.1 p.2
  | [], _ => by simp
  | _ :: _, [] => by simp
  | a :: l, b :: k => by simp [zip_map f l k]
def zD (rows : List (List Int)) (col : List Int) : List (D × D) := (rows.zip col).map fun p => (intD p.1, D.int p.2)
theorem zD_zip (rows : List (List Int)) (col : List Int) : List.zipWith (fun d g => D.tup [d, g]) (rows.map intD) (col.map D.int) = (zD rows col).map fun p => D.tup [p.1, p.2] := by
  unfold zD
  rw [zip_map, List.zip_map, List.map_map, List.map_map]
  rfl
section
variable {P : Program} {w : World} {K : PySem.W.Frag} {mg : Str → Option Value} {base : Heap} {C : Addr} {f : Addr} {fd : FuncData}
theorem ok_wcol (G : Fun K "with_column" "with_column" sWcol f fd) (nZ : MgN mg "zip") : FnOk P w K mg base CX0 1 f fd ["rows", "place", "column"] (spD K C R_wcol) := by
  refine pure_def G scWcol (fun ds d ⟨_, _, _, h, _⟩ => by rw [h]; rfl) fun cdv A outer s H E hr ds d h => ?_
  obtain ⟨rows, k, col, rfl, hl, h4, hk, rfl⟩ := h
  have hzl : (zD rows col).length ≤ 4 := by unfold zD; rw [List.length_map, List.length_zip]; omega
  refine db_one (ds_ret (de_of (dn_lc2 (n := "row") (m := "number") (i := 3) (j := 4) (l := zD rows col) (es := (List.zipWith (withCol k) rows col).map intD)
    (zD_zip rows col ▸ di_zip nZ (dv 0) (dv 2) (by rw [List.length_map, List.length_map, hl])) (blkOk_by (N := nWcol) (sc := defScope sWcol) (by decide +kernel)) scWcol.nd (by decide)
    (fun _ _ _ _ _ => pg_tup rfl (pgs_cons (pg_name (i := 3) scWcol.nd rfl (Or.inl rfl)) (pgs_cons (pg_name (i := 4) scWcol.nd rfl (Or.inl rfl)) pgs_nil)) rfl rfl) ?_ (sz_le hzl rfl) (fun i p e hd he s H C' cl fp => ?_))))
  · unfold zD
    rw [zip_map, List.length_map, List.length_map, List.length_map]
  · unfold zD at hd
    rw [zip_map, List.map_map, List.getElem?_map] at he
    rw [List.getElem?_map] at hd
    obtain ⟨⟨r, x⟩, hq, rfl⟩ := Option.map_eq_some_iff.mp hd
    rw [hq] at he
    simp only [Option.map_some, Option.some.injEq, Function.comp] at he
    subst he
    have hm : r ∈ rows := (List.of_mem_zip (List.mem_of_getElem? hq)).1
    obtain ⟨k1, k2⟩ := hk r hm
    have hk1 : ((k : Int) + 1) = ((k + 1 : Nat) : Int) := by omega
    have e1 : cutD (r.map D.int) none (some (k : Int)) = (r.take k).map D.int := by rw [cut_to _ (by rw [List.length_map]; omega), List.map_take]
    have e2 : cutD (r.map D.int) (some ((k : Int) + 1)) none = (r.drop (k + 1)).map D.int := by rw [hk1, cut_from _ (by rw [List.length_map]; omega), List.map_drop]
    refine de_is (de_of (dn_cat (de_of (dn_cat (de_of (dn_is (dn_slL (dv 3) do_none (do_some (dv 1))) e1)) (de_of (dn_lst (da_cons (dv 4) da_nil))) (sz_le (m := 100) ?_ rfl))) (de_of (dn_is (dn_slL (dv 3) (do_some (de_add (dv 1) de_int)) do_none) e2)) (sz_le (m := 100) ?_ rfl))) ?_
    · simp only [List.length_map, List.length_take, List.length_cons, List.length_nil]; omega
    · simp only [List.length_map, List.length_take, List.length_append, List.length_drop, List.length_cons, List.length_nil]; omega
    · unfold intD withCol
      simp only [List.map_append, List.map_cons, List.map_nil]
end
end Sw
namespace Sw
open PySem PySem.Spec PyProof.Rows L2
theorem natD_at {p : Kp389.Process} {π : List Nat} (V : VPol p π) {s : Nat} (hs : s < p.stateCount) : atI ((π.map fun (x : Nat) => (x : Int)).map D.int) (s : Int) = some (.int ((π.getD s 0 : Nat) : Int)) := int_at (natI (by rw [V.len]; exact hs))
def pvD (p : Kp389.Process) (t : Nat) (π : List Nat) : D := .tup [intD ((List.range p.stateCount).map (topOf p t π)), .int (bot p π)]
def R_pv : List D → D → Prop := fun ds d => ∃ p t π, ds = [.proc p, .int (t : Nat), natD π] ∧ PWf p ∧ t ≤ 1 ∧ VPol p π ∧ d = pvD p t π
abbrev sPv : Stmt := top 21
abbrev nPv : List Str := ["process", "table", "policy", "rows", "sides", "tops", "state"]
theorem scPv : FnScope nPv ["process", "table", "policy"] (defScope sPv) := ⟨rfl, rfl, rfl, by decide +kernel, rfl, by decide +kernel, by decide +kernel⟩
theorem matZ_mem {n : Nat} {A : Nat → Nat → Int} {r : List Int} (h : r ∈ matZ n n A) : ∃ i, i < n ∧ r = (List.range n).map fun j => A i j := by
  obtain ⟨i, hi, rfl⟩ := List.mem_map.mp h
  exact ⟨i, List.mem_range.mp hi, rfl⟩
theorem matZ_sq {n : Nat} {A : Nat → Nat → Int} (h : ∀ i j, i < n → j < n → (A i j).natAbs < 2 ^ 50) : Sq n (matZ n n A) := by
  refine ⟨by simp [matZ], fun r hr => ?_, fun r hr x hx => ?_⟩
  · obtain ⟨i, hi, rfl⟩ := matZ_mem hr
    simp
  · obtain ⟨i, hi, rfl⟩ := matZ_mem hr
    obtain ⟨j, hj, rfl⟩ := List.mem_map.mp hx
    have := h i j hi (List.mem_range.mp hj)
    omega
theorem withCol_eq {n : Nat} (A : Nat → Nat → Int) (b : Nat → Int) {k : Nat} (hk : k < n) : List.zipWith (withCol k) (matZ n n A) ((List.range n).map b) = matZ n n (colRep A k b) := by
  unfold matZ
  rw [List.zipWith_map, List.zipWith_self]
  refine List.map_congr_left fun i hi => ?_
  unfold withCol
  apply List.ext_getElem?
  intro j
  by_cases hj : j < n
  · rw [List.getElem?_map, List.getElem?_range hj, Option.map_some]
    unfold colRep
    rw [← List.map_take, ← List.map_drop]
    by_cases h1 : j < k
    · rw [if_neg (by omega), List.append_assoc, List.getElem?_append_left (by simp; omega), List.getElem?_map, List.getElem?_take_of_lt h1, List.getElem?_range hj]
      rfl
    · by_cases h2 : j = k
      · subst h2
        rw [if_pos rfl, List.append_assoc, List.getElem?_append_right (by simp; omega)]
        simp
        rw [Nat.min_eq_left (by omega)]
        simp
      · rw [if_neg h2, List.getElem?_append_right (by simp; omega), List.getElem?_map, List.getElem?_drop]
        have : k + 1 + (j - (List.map (fun j => A i j) (List.take k (List.range n)) ++ [b i]).length) = j := by
          simp
          rw [Nat.min_eq_left (by omega)]
          omega
        rw [this, List.getElem?_range hj]
        rfl
  · rw [List.getElem?_eq_none (by simp; omega), List.getElem?_eq_none (by simp; omega)]
section
variable {P : Program} {w : World} {K : PySem.W.Frag} {mg : Str → Option Value} {base : Heap} {C : Addr} {f : Addr} {fd : FuncData}
theorem ok_pv (G : Fun K "policy_values" "policy_values" sPv f fd) (gE : Cal P w K mg base 2 "equation" (spD K C R_eqn)) (gR : Cal P w K mg base 3 "right_side" (spD K C R_rs)) (gD : Cal P w K mg base 6 "determinant" (spD K C R_detA)) (gW : Cal P w K mg base 1 "with_column" (spD K C R_wcol)) (g : PG1 P w K mg base C) :
    FnOk P w K mg base CX0 7 f fd ["process", "table", "policy"] (spD K C R_pv) := by
  refine pure_def G scPv (fun ds d ⟨_, _, _, h, _⟩ => by rw [h]; rfl) fun cdv A outer s H E hr ds d h => ?_
  obtain ⟨p, t, π, rfl, W, ht, V, rfl⟩ := h
  have hr1 : Room 1 _ := hr.mono (by decide)
  have hr2 : Room 2 _ := hr.mono (by decide)
  have hr3 : Room 3 _ := hr.mono (by decide)
  have hn4 := W.n4
  have szn : ((List.range p.stateCount).map fun (k : Nat) => D.int (k : Int)).length ≤ sizeLine := sz_le (m := 4) (by rw [range_len]; omega) rfl
  have Z := matZ_sq (n := p.stateCount) (A := polE p π) fun i j hi _ => Nat.lt_of_le_of_lt (eqE_abs W hi (V.lt i hi) j) (by decide)
  refine db_cons (ds_set 3 (d := rowsD (matZ p.stateCount p.stateCount (polE p π))) (de_of (dn_lc (n := "state") (i := 6) (ds := (List.range p.stateCount).map fun (k : Nat) => D.int (k : Int)) (di_rangeN g.nR (de_fld pf_states g.T.cl g.T.n1 (dv 0)) (by omega)) (blkOk_by (N := nPv) (sc := defScope sPv) (by decide +kernel)) scPv.nd (fun _ _ _ _ _ => pg_name (i := 6) scPv.nd rfl (Or.inl rfl)) (by simp [matZ]) szn (fun i d e hd he s H C' cl fp => ?_))) scPv.nd) ?_
  · obtain ⟨hi, rfl⟩ := range_get hd
    unfold matZ at he
    rw [List.map_map] at he
    obtain ⟨_, rfl⟩ := range_mget he
    exact de_call gE hr2 (da_cons (dv 0) (da_cons (dv 6) (da_cons (de_ixL (dv 2) (dv 6) (natD_at V hi)) da_nil))) ⟨p, i, π.getD i 0, rfl, W, hi, V.lt i hi, rfl⟩
  refine db_cons (ds_set 4 (d := intD ((List.range p.stateCount).map fun i => sideI p t i (π.getD i 0))) (de_of (dn_lc (n := "state") (i := 6) (ds := (List.range p.stateCount).map fun (k : Nat) => D.int (k : Int)) (di_rangeN g.nR (de_fld pf_states g.T.cl g.T.n1 (dv 0)) (by omega)) (blkOk_by (N := nPv) (sc := defScope sPv) (by decide +kernel)) scPv.nd (fun _ _ _ _ _ => pg_name (i := 6) scPv.nd rfl (Or.inl rfl)) (by simp) szn (fun i d e hd he s H C' cl fp => ?_))) scPv.nd) ?_
  · obtain ⟨hi, rfl⟩ := range_get hd
    rw [List.map_map] at he
    obtain ⟨_, rfl⟩ := range_mget he
    exact de_call gR hr3 (da_cons (dv 0) (da_cons (dv 1) (da_cons (dv 6) (da_cons (de_ixL (dv 2) (dv 6) (natD_at V hi)) da_nil)))) ⟨p, t, i, π.getD i 0, rfl, W, ht, hi, V.lt i hi, rfl⟩
  refine db_cons (ds_setLcN 5 (n := "state") (t := 6) (ds := (List.range p.stateCount).map fun (k : Nat) => D.int (k : Int)) (es := ((List.range p.stateCount).map (topOf p t π)).map D.int) (di_rangeN g.nR (de_fld pf_states g.T.cl g.T.n1 (dv 0)) (by omega)) (blkOk_by (N := nPv) (sc := defScope sPv) (by decide +kernel)) scPv.nd (fun _ _ _ _ _ => pg_name (i := 6) scPv.nd rfl (Or.inl rfl)) (by simp) szn (fun i d e hd he s H C' cl fp => ?_)) ?_
  · obtain ⟨hi, rfl⟩ := range_get hd
    rw [List.map_map] at he
    obtain ⟨_, rfl⟩ := range_mget he
    have Z2 := matZ_sq (n := p.stateCount) (A := colRep (polE p π) i fun s => sideI p t s (π.getD s 0)) fun a b ha _ => by
      unfold colRep
      split
      · exact Nat.lt_of_le_of_lt (sideI_abs W t ha (V.lt a ha)) (by decide)
      · exact Nat.lt_of_le_of_lt (eqE_abs W ha (V.lt a ha) b) (by decide)
    refine de_call gD hr (da_cons (de_call gW hr1 (da_cons (dv 3) (da_cons (dv 6) (da_cons (dv 4) da_nil))) ⟨matZ p.stateCount p.stateCount (polE p π), i, (List.range p.stateCount).map fun i => sideI p t i (π.getD i 0), rfl, by simp [matZ], by simp [matZ]; omega, fun r hr => ?_, rfl⟩) da_nil) ⟨p.stateCount, hn4, matZ p.stateCount p.stateCount (colRep (polE p π) i fun s => sideI p t s (π.getD s 0)), ?_, Z2, rfl⟩
    · have := Z.row r hr
      omega
    · rw [withCol_eq _ _ hi]
  refine db_freeze 5 (db_one (ds_ret (de_tup (da_cons (dv 5) (da_cons (de_call gD hr (da_cons (dv 3) da_nil) ⟨p.stateCount, hn4, matZ p.stateCount p.stateCount (polE p π), rfl, Z, rfl⟩) da_nil)))))
/-! ### the value of an action -/
def avD (p : Kp389.Process) (t : Nat) (π : List Nat) (s a : Nat) : D := .tup [.int (avTop p t π s a), .int (avBot p π s a)]
def R_av : List D → D → Prop := fun ds d => ∃ p t π s a, ds = [.proc p, .int (t : Nat), pvD p t π, .int (s : Nat), .int (a : Nat)] ∧ PWf p ∧ t ≤ 1 ∧ VPol p π ∧ s < p.stateCount ∧ a < p.actionCount ∧ d = avD p t π s a
abbrev sAv : Stmt := top 22
abbrev nAv : List Str := ["process", "table", "values", "state", "action", "tops", "bottom", "weights", "total", "later", "reward"]
theorem scAv : FnScope nAv ["process", "table", "values", "state", "action"] (defScope sAv) := ⟨rfl, rfl, rfl, by decide +kernel, rfl, by decide +kernel, by decide +kernel⟩
theorem ok_av (G : Fun K "action_value" "action_value" sAv f fd) (g : PG1 P w K mg base C) (nS : MgN mg "sum") : FnOk P w K mg base CX0 3 f fd ["process", "table", "values", "state", "action"] (spD K C R_av) := by
  refine pure_def G scAv (fun ds d ⟨_, _, _, _, _, h, _⟩ => by rw [h]; rfl) fun cdv A outer s' H E hr ds d h => ?_
  obtain ⟨p, t, π, s, a, rfl, W, ht, V, hs, ha, rfl⟩ := h
  have hr1 : Room 1 _ := hr.mono (by decide)
  have hg := W.g1
  have hgh := W.gh
  have h10 := W.h10
  have hn4 := W.n4
  refine db_cons (ds_asg (dv 2) (dg_tup (dgs_cons (dg_name 5 scAv.nd) (dgs_cons (dg_name 6 scAv.nd) dgs_nil)))) ?_
  refine db_cons (ds_set 7 (de_meth g.wof hr1 g.T.cl nfWof (dv 0) (da_cons (dv 3) (da_cons (dv 4) da_nil)) ⟨p, s, a, rfl, W, hs, ha, rfl⟩) scAv.nd) (db_cons (ds_set 8 de_int scAv.nd) ?_)
  refine db_cons (ds_for (ds := (List.range p.stateCount).map fun (k : Nat) => D.int (k : Int)) (fun _ => F0)
    (fun k => [.dat (.proc p), .dat (.int t), .dat (pvD p t π), .dat (.int s), .dat (.int a), .dat (intD ((List.range p.stateCount).map (topOf p t π))), .dat (.int (bot p π)), .dat (intD (wI p s a)), .dat (.int (sumZ k fun q => wt p s a q * ((p.discountDen : Int) * bot p π * Kp389.reward p t s a q + (p.discountNum : Int) * topOf p t π q))), .un, .un])
    (fun k => [.dat (.proc p), .dat (.int t), .dat (pvD p t π), .dat (.int s), .dat (.int a), .dat (intD ((List.range p.stateCount).map (topOf p t π))), .dat (.int (bot p π)), .dat (intD (wI p s a)), .dat (.int (sumZ k fun q => wt p s a q * ((p.discountDen : Int) * bot p π * Kp389.reward p t s a q + (p.discountNum : Int) * topOf p t π q))), .dat (.int k), .un])
    (fun k => [.dat (.proc p), .dat (.int t), .dat (pvD p t π), .dat (.int s), .dat (.int a), .dat (intD ((List.range p.stateCount).map (topOf p t π))), .dat (.int (bot p π)), .dat (intD (wI p s a)), .dat (.int (sumZ (k + 1) fun q => wt p s a q * ((p.discountDen : Int) * bot p π * Kp389.reward p t s a q + (p.discountNum : Int) * topOf p t π q))), .dat (.int k), .dat (.int (Kp389.reward p t s a k))])
    (di_rangeN g.nR (de_fld pf_states g.T.cl g.T.n1 (dv 0)) (by omega)) (fun k d hd => ?_) (fun k d hd => ?_) (fun k hk => .same (.same (.same (.same (.same (.same (.same (.same (.same (.un (.un .nil))))))))))) PassesOwn.never) ?_
  · obtain ⟨hk, rfl⟩ := range_get hd
    exact dg_name 9 scAv.nd
  · obtain ⟨hk, rfl⟩ := range_get hd
    have w9 := wt_le W hs ha k
    have rw9 := W.rwd t hs ha hk
    have tk : ((List.range p.stateCount).map (topOf p t π))[k]? = some (topOf p t π k) := by rw [List.getElem?_map, List.getElem?_range hk]; rfl
    refine db_cons (ds_set 10 (de_meth g.reward hr g.T.cl nfReward (dv 0) (da_cons (dv 1) (da_cons (dv 3) (da_cons (dv 4) (da_cons (dv 9) da_nil)))) ⟨p, t, s, a, k, rfl, W, ht, hs, ha, hk, rfl⟩) scAv.nd) ?_
    exact db_to (db_one (ds_aug 8 (de_mul (de_ixL (dv 7) (dv 9) (int_at (wI_get W hs ha hk))) (de_add (de_mul (de_mul (de_fld pf_bottom g.T.cl g.T.n4 (dv 0)) (dv 6) (mulL (by omega))) (dv 10) (mulRz ⟨by omega, by omega⟩)) (de_mul (de_fld pf_top g.T.cl g.T.n3 (dv 0)) (de_ixL (dv 5) (dv 9) (int_at tk)) (mulL (by omega)))) (mulLz ⟨by omega, by omega⟩)) scAv.nd)) rfl
  · have w36 := wsum_le W hs ha
    refine db_one (ds_to (ds_ret (de_tup (da_cons (dv 8) (da_cons (de_mul (de_mul (de_fld pf_bottom g.T.cl g.T.n4 (dv 0)) (dv 6) (mulL (by omega))) (de_is (de_sum nS (dv 7)) (by rw [wI_sum])) (mulRz ⟨by omega, by omega⟩)) da_nil)))) ?_)
    rw [List.length_map, List.length_range]
    rfl
def R_gr : List D → D → Prop := fun ds d => ∃ a b c e : Int, ds = [.tup [.int a, .int b], .tup [.int c, .int e]] ∧ (0 < b ∧ b < 2 ^ 60) ∧ (0 < e ∧ e < 2 ^ 60) ∧ d = .bl (decide (c * b < a * e))
abbrev sGr : Stmt := top 23
theorem scGr : FnScope ["one", "other"] ["one", "other"] (defScope sGr) := ⟨rfl, rfl, rfl, by decide +kernel, rfl, by decide +kernel, by decide +kernel⟩
theorem ok_gr (G : Fun K "is_greater" "is_greater" sGr f fd) : FnOk P w K mg base CX0 1 f fd ["one", "other"] (spD K C R_gr) := by
  refine pure_def G scGr (fun ds d ⟨_, _, _, _, h, _⟩ => by rw [h]; rfl) fun cdv A outer s' H E hr ds d h => ?_
  obtain ⟨a, b, c, e, rfl, hb, he, rfl⟩ := h
  exact db_one (ds_ret (de_gt (de_mul (de_ixT (dv 0) de_int) (de_ixT (dv 1) de_int) (mulS ⟨by omega, by omega⟩)) (de_mul (de_ixT (dv 1) de_int) (de_ixT (dv 0) de_int) (mulS ⟨by omega, by omega⟩))))
/-! ### better actions -/
def R_better : List D → D → Prop := fun ds d => ∃ p t π s a, ds = [.proc p, .int (t : Nat), pvD p t π, .int (s : Nat), .int (a : Nat)] ∧ PWf p ∧ t ≤ 1 ∧ VPol p π ∧ s < p.stateCount ∧ a < p.actionCount ∧ d = .int (bestOf (qv p t (valQ p t π) s) (List.range p.actionCount) a : Nat)
abbrev sBetter : Stmt := top 24
abbrev nBetter : List Str := ["process", "table", "values", "state", "action", "found", "value", "other", "there"]
theorem scBetter : FnScope nBetter ["process", "table", "values", "state", "action"] (defScope sBetter) := ⟨rfl, rfl, rfl, by decide +kernel, rfl, by decide +kernel, by decide +kernel⟩
theorem bestOf_range (f : Nat → Rat) (k old : Nat) : bestOf f (List.range (k + 1)) old = if f (bestOf f (List.range k) old) < f k then k else bestOf f (List.range k) old := by
  unfold bestOf
  rw [List.range_succ, List.foldl_append]
  rfl
theorem bestOf_lt {f : Nat → Rat} {m old : Nat} (ho : old < m) {k : Nat} (hk : k ≤ m) : bestOf f (List.range k) old < m := by
  obtain ⟨_, _, h3⟩ := bestOf_spec f (List.range k) old
  rcases h3 with h3 | ⟨h3, _⟩
  · rw [h3]; exact ho
  · have := List.mem_range.mp h3; omega
theorem ok_better (G : Fun K "better_action" "better_action" sBetter f fd) (g : PG1 P w K mg base C) (gA : Cal P w K mg base 3 "action_value" (spD K C R_av)) (gG : Cal P w K mg base 1 "is_greater" (spD K C R_gr)) : FnOk P w K mg base CX0 4 f fd ["process", "table", "values", "state", "action"] (spD K C R_better) := by
  refine pure_def G scBetter (fun ds d ⟨_, _, _, _, _, h, _⟩ => by rw [h]; rfl) fun cdv A outer s' H E hr ds d h => ?_
  obtain ⟨p, t, π, s, a, rfl, W, ht, V, hs, ha, rfl⟩ := h
  have hr1 : Room 1 _ := hr.mono (by decide)
  have hm3 := W.m3
  refine db_cons (ds_par 5 6 (dv 4) (de_call gA hr (da_cons (dv 0) (da_cons (dv 1) (da_cons (dv 2) (da_cons (dv 3) (da_cons (dv 4) da_nil))))) ⟨p, t, π, s, a, rfl, W, ht, V, hs, ha, rfl⟩) scBetter.nd) ?_
  refine db_cons (ds_for (ds := (List.range p.actionCount).map fun (k : Nat) => D.int (k : Int)) (fun _ => F0)
    (fun k => [.dat (.proc p), .dat (.int t), .dat (pvD p t π), .dat (.int s), .dat (.int a), .dat (.int (bestOf (qv p t (valQ p t π) s) (List.range k) a : Nat)), .dat (avD p t π s (bestOf (qv p t (valQ p t π) s) (List.range k) a)), .un, .un])
    (fun k => [.dat (.proc p), .dat (.int t), .dat (pvD p t π), .dat (.int s), .dat (.int a), .dat (.int (bestOf (qv p t (valQ p t π) s) (List.range k) a : Nat)), .dat (avD p t π s (bestOf (qv p t (valQ p t π) s) (List.range k) a)), .dat (.int k), .un])
    (fun k => [.dat (.proc p), .dat (.int t), .dat (pvD p t π), .dat (.int s), .dat (.int a), .dat (.int (bestOf (qv p t (valQ p t π) s) (List.range (k + 1)) a : Nat)), .dat (avD p t π s (bestOf (qv p t (valQ p t π) s) (List.range (k + 1)) a)), .dat (.int k), .dat (avD p t π s k)])
    (di_rangeN g.nR (de_fld pf_actions g.T.cl g.T.n2 (dv 0)) (by omega)) (fun k d hd => ?_) (fun k d hd => ?_) (fun k hk => .same (.same (.same (.same (.same (.same (.same (.un (.un .nil))))))))) PassesOwn.never) ?_
  · obtain ⟨hk, rfl⟩ := range_get hd
    exact dg_name 7 scBetter.nd
  · obtain ⟨hk, rfl⟩ := range_get hd
    have hb := bestOf_lt (f := qv p t (valQ p t π) s) ha (k := k) (by omega)
    have q1 := avBot_bd W V hs hk
    have q2 := avBot_bd W V hs hb
    have lc := lt_cross (a := avTop p t π s k) (c := avTop p t π s (bestOf (qv p t (valQ p t π) s) (List.range k) a)) q1.1 q2.1
    rw [← avQ W t V hs hk, ← avQ W t V hs hb] at lc
    refine db_cons (ds_set 8 (de_call gA hr (da_cons (dv 0) (da_cons (dv 1) (da_cons (dv 2) (da_cons (dv 3) (da_cons (dv 7) da_nil))))) ⟨p, t, π, s, k, rfl, W, ht, V, hs, hk, rfl⟩) scBetter.nd) ?_
    have br := bestOf_range (qv p t (valQ p t π) s) k a
    by_cases c : qv p t (valQ p t π) s (bestOf (qv p t (valQ p t π) s) (List.range k) a) < qv p t (valQ p t π) s k
    · rw [if_pos c] at br
      refine db_one (ds_if (k := true) (dt_is (dt_val (de_call gG hr1 (da_cons (dv 8) (da_cons (dv 6) da_nil)) ⟨_, _, _, _, rfl, ⟨q1.1, by omega⟩, ⟨q2.1, by omega⟩, rfl⟩)) (decide_eq_true (lc.mp c))) (fun _ => ?_) (fun h => by cases h))
      refine db_to (db_one (ds_par 5 6 (dv 7) (dv 8) scBetter.nd)) ?_
      rw [br]
      rfl
    · rw [if_neg c] at br
      refine db_one (ds_if (k := false) (dt_is (dt_val (de_call gG hr1 (da_cons (dv 8) (da_cons (dv 6) da_nil)) ⟨_, _, _, _, rfl, ⟨q1.1, by omega⟩, ⟨q2.1, by omega⟩, rfl⟩)) (decide_eq_false fun z => c (lc.mpr z))) (fun h => by cases h) (fun _ => ?_))
      refine db_to db_nil ?_
      rw [br]
      rfl
  · refine db_one (ds_to (ds_ret (dv 5)) ?_)
    rw [List.length_map, List.length_range]
def R_improved : List D → D → Prop := fun ds d => ∃ p t π, ds = [.proc p, .int (t : Nat), natD π] ∧ PWf p ∧ t ≤ 1 ∧ VPol p π ∧ d = natD (nextP p t π)
abbrev sImproved : Stmt := top 25
abbrev nImproved : List Str := ["process", "table", "policy", "values", "state"]
theorem scImproved : FnScope nImproved ["process", "table", "policy"] (defScope sImproved) := ⟨rfl, rfl, rfl, by decide +kernel, rfl, by decide +kernel, by decide +kernel⟩
theorem ok_improved (G : Fun K "improved" "improved" sImproved f fd) (g : PG1 P w K mg base C) (gV : Cal P w K mg base 7 "policy_values" (spD K C R_pv)) (gB : Cal P w K mg base 4 "better_action" (spD K C R_better)) : FnOk P w K mg base CX0 8 f fd ["process", "table", "policy"] (spD K C R_improved) := by
  refine pure_def G scImproved (fun ds d ⟨_, _, _, h, _⟩ => by rw [h]; rfl) fun cdv A outer s H E hr ds d h => ?_
  obtain ⟨p, t, π, rfl, W, ht, V, rfl⟩ := h
  have hr4 : Room 4 _ := hr.mono (by decide)
  have hn4 := W.n4
  have szn : ((List.range p.stateCount).map fun (k : Nat) => D.int (k : Int)).length ≤ sizeLine := sz_le (m := 4) (by rw [range_len]; omega) rfl
  refine db_cons (ds_set 3 (de_call gV hr (da_cons (dv 0) (da_cons (dv 1) (da_cons (dv 2) da_nil))) ⟨p, t, π, rfl, W, ht, V, rfl⟩) scImproved.nd) ?_
  refine db_one (ds_ret (de_of (dn_lc (n := "state") (i := 4) (ds := (List.range p.stateCount).map fun (k : Nat) => D.int (k : Int)) (di_rangeN g.nR (de_fld pf_states g.T.cl g.T.n1 (dv 0)) (by omega)) (blkOk_by (N := nImproved) (sc := defScope sImproved) (by decide +kernel)) scImproved.nd (fun _ _ _ _ _ => pg_name (i := 4) scImproved.nd rfl (Or.inl rfl)) (by simp [nextP, Kp389.states]) szn (fun i d e hd he s H C' cl fp => ?_))))
  obtain ⟨hi, rfl⟩ := range_get hd
  unfold nextP Kp389.states at he
  rw [List.map_map, List.map_map] at he
  obtain ⟨_, rfl⟩ := range_mget he
  simp only [Function.comp]
  rw [improvedAction_eq W t V]
  exact de_call gB hr4 (da_cons (dv 0) (da_cons (dv 1) (da_cons (dv 3) (da_cons (dv 4) (da_cons (de_ixL (dv 2) (dv 4) (natD_at V hi)) da_nil))))) ⟨p, t, π, i, π.getD i 0, rfl, W, ht, V, hi, V.lt i hi, rfl⟩
end
end Sw
namespace Sw
open PySem PySem.Spec PyProof.Rows L2
theorem natL_inj {l k : List Nat} : ((l.map fun (x : Nat) => (x : Int)) = k.map fun (x : Nat) => (x : Int)) ↔ l = k := by
  constructor
  · intro h
    have : Function.Injective (fun (x : Nat) => (x : Int)) := fun a b e => Int.ofNat_inj.mp e
    exact (List.map_inj_right this).mp h
  · intro h; rw [h]
/-! the optimal actions -/
def oaRow (p : Kp389.Process) (t s : Nat) (k : Nat) : List Nat := (List.range k).filter fun a => decide (qv p t (valQ p t (bestP p t)) s a = valQ p t (bestP p t) s)
theorem oaRow_succ (p : Kp389.Process) (t s k : Nat) : oaRow p t s (k + 1) = oaRow p t s k ++ (if qv p t (valQ p t (bestP p t)) s k = valQ p t (bestP p t) s then [k] else []) := by
  unfold oaRow
  rw [List.range_succ, List.filter_append]
  congr 1
  simp only [List.filter_cons, List.filter_nil, decide_eq_true_eq]
theorem allOpt_eq {p : Kp389.Process} (W : PWf p) (t : Nat) : Kp389.allOptimalActions p t = (List.range p.stateCount).map fun s => oaRow p t s p.actionCount := by
  unfold Kp389.allOptimalActions
  have V := bestP_pol W t
  show (Kp389.states p).map (fun s => (Kp389.actions p).filter fun a => Kp389.actionValueWith p t (Kp389.policyValues p t (bestP p t)) s a == (Kp389.policyValues p t (bestP p t)).getD s 0) = _
  unfold Kp389.states Kp389.actions
  refine List.map_congr_left fun s hs => ?_
  have hs' := List.mem_range.mp hs
  unfold oaRow
  refine List.filter_congr fun a _ => ?_
  rw [avw_qv W t V, pv_getD W t V hs']
  by_cases h : qv p t (valQ p t (bestP p t)) s a = valQ p t (bestP p t) s <;> simp [h]
theorem oaRow_mem {p : Kp389.Process} (W : PWf p) (t : Nat) {s : Nat} (hs : s < p.stateCount) : (bestP p t).getD s 0 ∈ oaRow p t s p.actionCount := by
  have V := bestP_pol W t
  unfold oaRow
  rw [List.mem_filter]
  exact ⟨List.mem_range.mpr (V.lt s hs), decide_eq_true (valQ_fix W t V hs)⟩
theorem oaRow_ne {p : Kp389.Process} (W : PWf p) (t : Nat) {s : Nat} (hs : s < p.stateCount) : oaRow p t s p.actionCount ≠ [] := fun z => by
  have := oaRow_mem W t hs
  rw [z] at this; cases this
theorem head_mem {l : List Nat} (h : l ≠ []) : l.headD 0 ∈ l ∧ l[0]? = some (l.headD 0) := by
  cases l with
  | nil => exact absurd rfl h
  | cons a l => exact ⟨List.mem_cons_self, rfl⟩
def optP (p : Kp389.Process) (t : Nat) : List Nat := (List.range p.stateCount).map fun s => (oaRow p t s p.actionCount).headD 0
theorem optP_eq {p : Kp389.Process} (W : PWf p) (t : Nat) : Kp389.optimalPolicy p t = optP p t := by
  unfold Kp389.optimalPolicy optP
  rw [allOpt_eq W, List.map_map]
  rfl
theorem optP_pol {p : Kp389.Process} (W : PWf p) (t : Nat) : VPol p (optP p t) := by
  refine ⟨by simp [optP], fun s hs => ?_⟩
  unfold optP
  rw [row_getN hs]
  have h := (head_mem (oaRow_ne W t hs)).1
  unfold oaRow at h ⊢
  exact List.mem_range.mp (List.mem_filter.mp h).1
def pvL (p : Kp389.Process) (t : Nat) (π : List Nat) : List Rat := (List.range p.stateCount).map (valQ p t π)
theorem regrets_eq {p : Kp389.Process} (W : PWf p) : Kp389.regrets p = (List.range p.stateCount).map fun s => valQ p 1 (bestP p 1) s - valQ p 1 (optP p 0) s := by
  unfold Kp389.regrets
  rw [optP_eq W, pv_valQ W 1 (optP_pol W 0)]
  show List.zipWith _ (Kp389.policyValues p 1 (bestP p 1)) _ = _
  rw [pv_valQ W 1 (bestP_pol W 1), List.zipWith_map, List.zipWith_self]
section
variable {P : Program} {w : World} {K : PySem.W.Frag} {mg : Str → Option Value} {base : Heap} {C : Addr} {f : Addr} {fd : FuncData}
def R_best : List D → D → Prop := fun ds d => ∃ p t, ds = [.proc p, .int (t : Nat)] ∧ PWf p ∧ t ≤ 1 ∧ d = natD (bestP p t)
abbrev sBest : Stmt := top 26
abbrev nBest : List Str := ["process", "table", "policy", "later"]
theorem scBest : FnScope nBest ["process", "table"] (defScope sBest) := ⟨rfl, rfl, rfl, by decide +kernel, rfl, by decide +kernel, by decide +kernel⟩
theorem ok_best (G : Fun K "best_policy" "best_policy" sBest f fd) (g : PG1 P w K mg base C) (gI : Cal P w K mg base 8 "improved" (spD K C R_improved)) : FnOk P w K mg base CX0 9 f fd ["process", "table"] (spD K C R_best) := by
  refine pure_def G scBest (fun ds d ⟨_, _, h, _⟩ => by rw [h]; rfl) fun cdv A outer s H E hr ds d h => ?_
  obtain ⟨p, t, rfl, W, ht, rfl⟩ := h
  have hn4 := W.n4
  obtain ⟨n, _, hfix, hne, hb⟩ := best_ex W t
  have V0 := pol0_pol W
  refine db_cons (ds_set 2 (d := natD (pol0 p)) (de_is (de_of (dn_rep (de_of (dn_lst (da_cons de_int da_nil))) (de_fld pf_states g.T.cl g.T.n1 (dv 0)) (by omega) (by omega) (sz_le (m := 100) (by simp; omega) rfl))) ?_) scBest.nd) ?_
  · unfold natD intD pol0
    rw [Int.toNat_natCast, List.map_replicate, List.map_replicate]
    congr 1
    generalize p.stateCount = z
    induction z with
    | zero => rfl
    | succ z ih => rw [List.replicate_succ, List.flatten_cons, ih, List.replicate_succ]; rfl
  refine db_cons (ds_set 3 (de_call gI hr (da_cons (dv 0) (da_cons (dv 1) (da_cons (dv 2) da_nil))) ⟨p, t, pol0 p, rfl, W, ht, V0, rfl⟩) scBest.nd) ?_
  refine db_cons (ds_while n (fun _ => F0) (fun k => [.dat (.proc p), .dat (.int t), .dat (natD (iterP p t k (pol0 p))), .dat (natD (iterP p t (k + 1) (pol0 p)))]) (fun k => [.dat (.proc p), .dat (.int t), .dat (natD (iterP p t (k + 1) (pol0 p))), .dat (natD (iterP p t (k + 2) (pol0 p)))])
    (fun k hk => ?_) (fun k hk => ?_) (fun k hk => .same (.same (.same (.same .nil)))) PassesOwn.never) (db_one (ds_to (ds_ret (dv 2)) ?_))
  · refine dt_is (dt_neD (dv 3) (dv 2) (eqD_ints _ _) hr.units) ?_
    rw [iterP_succ]
    by_cases c : k < n
    · have h1 := hne k c
      have h2 : ¬ ((nextP p t (iterP p t k (pol0 p))).map fun (x : Nat) => (x : Int)) = (iterP p t k (pol0 p)).map fun (x : Nat) => (x : Int) := fun z => h1 (natL_inj.mp z)
      rw [decide_eq_false h2, decide_eq_true c]; rfl
    · have e : k = n := by omega
      subst e
      rw [hfix]
      simp
  · have V1 := iterP_pol W t V0 (k + 1)
    refine db_cons (ds_set 2 (dv 3) scBest.nd) (db_one (ds_to (ds_set 3 (de_call gI hr (da_cons (dv 0) (da_cons (dv 1) (da_cons (dv 2) da_nil))) ⟨p, t, _, rfl, W, ht, V1, rfl⟩) scBest.nd) ?_))
    rw [← iterP_succ]
    rfl
  · rw [hb]
def R_optv : List D → D → Prop := fun ds d => ∃ p t, ds = [.proc p, .int (t : Nat)] ∧ PWf p ∧ t ≤ 1 ∧ d = pvD p t (bestP p t)
abbrev sOptv : Stmt := top 27
theorem scOptv : FnScope ["process", "table"] ["process", "table"] (defScope sOptv) := ⟨rfl, rfl, rfl, by decide +kernel, rfl, by decide +kernel, by decide +kernel⟩
theorem ok_optv (G : Fun K "optimal_values" "optimal_values" sOptv f fd) (gV : Cal P w K mg base 7 "policy_values" (spD K C R_pv)) (gB : Cal P w K mg base 9 "best_policy" (spD K C R_best)) : FnOk P w K mg base CX0 10 f fd ["process", "table"] (spD K C R_optv) := by
  refine pure_def G scOptv (fun ds d ⟨_, _, h, _⟩ => by rw [h]; rfl) fun cdv A outer s H E hr ds d h => ?_
  obtain ⟨p, t, rfl, W, ht, rfl⟩ := h
  have hr7 : Room 7 _ := hr.mono (by decide)
  exact db_one (ds_ret (de_call gV hr7 (da_cons (dv 0) (da_cons (dv 1) (da_cons (de_call gB hr (da_cons (dv 0) (da_cons (dv 1) da_nil)) ⟨p, t, rfl, W, ht, rfl⟩) da_nil))) ⟨p, t, _, rfl, W, ht, bestP_pol W t, rfl⟩))
def natRows (l : List (List Nat)) : D := rowsD (l.map fun r => r.map fun (x : Nat) => (x : Int))
def R_opta : List D → D → Prop := fun ds d => ∃ p t, ds = [.proc p, .int (t : Nat)] ∧ PWf p ∧ t ≤ 1 ∧ d = natRows (Kp389.allOptimalActions p t)
abbrev sOpta : Stmt := top 28
abbrev nOpta : List Str := ["process", "table", "values", "found", "state", "due", "row", "action"]
theorem scOpta : FnScope nOpta ["process", "table"] (defScope sOpta) := ⟨rfl, rfl, rfl, by decide +kernel, rfl, by decide +kernel, by decide +kernel⟩
def oaD (p : Kp389.Process) (t k : Nat) : List D := (List.range k).map fun s => natD (oaRow p t s p.actionCount)
theorem ok_opta (G : Fun K "optimal_actions" "optimal_actions" sOpta f fd) (g : PG1 P w K mg base C) (gO : Cal P w K mg base 10 "optimal_values" (spD K C R_optv)) (gA : Cal P w K mg base 3 "action_value" (spD K C R_av)) (gG : Cal P w K mg base 1 "is_greater" (spD K C R_gr)) : FnOk P w K mg base CX0 11 f fd ["process", "table"] (spD K C R_opta) := by
  refine pure_def G scOpta (fun ds d ⟨_, _, h, _⟩ => by rw [h]; rfl) fun cdv A outer s H E hr ds d h => ?_
  obtain ⟨p, t, rfl, W, ht, rfl⟩ := h
  have hr1 : Room 1 _ := hr.mono (by decide)
  have hr3 : Room 3 _ := hr.mono (by decide)
  have hn4 := W.n4
  have hm3 := W.m3
  have V := bestP_pol W t
  have hbot := bot_pos W V
  have hbot2 := bot_abs W V
  refine db_cons (ds_parN2 2 3 (de_call gO hr (da_cons (dv 0) (da_cons (dv 1) da_nil)) ⟨p, t, rfl, W, ht, rfl⟩) (dn_lst da_nil) scOpta.nd) ?_
  refine db_cons (ds_for (ds := (List.range p.stateCount).map fun (k : Nat) => D.int (k : Int)) (fun _ => F0)
    (fun k => [.dat (.proc p), .dat (.int t), .dat (pvD p t (bestP p t)), .own (oaD p t k), .un, .un, .un, .un])
    (fun k => [.dat (.proc p), .dat (.int t), .dat (pvD p t (bestP p t)), .own (oaD p t k), .dat (.int k), .un, .un, .un])
    (fun k => [.dat (.proc p), .dat (.int t), .dat (pvD p t (bestP p t)), .own (oaD p t (k + 1)), .un, .un, .un, .un])
    (di_rangeN g.nR (de_fld pf_states g.T.cl g.T.n1 (dv 0)) (by omega)) (fun k d hd => ?_) (fun k d hd => ?_) (fun k hk => .same (.same (.same (.same (.un (.un (.un (.un .nil)))))))) PassesOwn.never) ?_
  · obtain ⟨hk, rfl⟩ := range_get hd
    exact dg_name 4 scOpta.nd
  · obtain ⟨hk, rfl⟩ := range_get hd
    have tk : ((List.range p.stateCount).map (topOf p t (bestP p t)))[k]? = some (topOf p t (bestP p t) k) := by rw [List.getElem?_map, List.getElem?_range hk]; rfl
    refine db_cons (ds_parN2 5 6 (de_tup (da_cons (de_ixL (de_ixT (dv 2) de_int) (dv 4) (int_at tk)) (da_cons (de_ixT (dv 2) de_int) da_nil))) (dn_lst da_nil) scOpta.nd) ?_
    refine db_cons (ds_for (ds := (List.range p.actionCount).map fun (k : Nat) => D.int (k : Int)) (fun _ => F0)
      (fun j => [.dat (.proc p), .dat (.int t), .dat (pvD p t (bestP p t)), .own (oaD p t k), .dat (.int k), .dat (.tup [.int (topOf p t (bestP p t) k), .int (bot p (bestP p t))]), .own ((oaRow p t k j).map fun (x : Nat) => D.int (x : Int)), .un])
      (fun j => [.dat (.proc p), .dat (.int t), .dat (pvD p t (bestP p t)), .own (oaD p t k), .dat (.int k), .dat (.tup [.int (topOf p t (bestP p t) k), .int (bot p (bestP p t))]), .own ((oaRow p t k j).map fun (x : Nat) => D.int (x : Int)), .dat (.int j)])
      (fun j => [.dat (.proc p), .dat (.int t), .dat (pvD p t (bestP p t)), .own (oaD p t k), .dat (.int k), .dat (.tup [.int (topOf p t (bestP p t) k), .int (bot p (bestP p t))]), .own ((oaRow p t k (j + 1)).map fun (x : Nat) => D.int (x : Int)), .dat (.int j)])
      (di_rangeN g.nR (de_fld pf_actions g.T.cl g.T.n2 (dv 0)) (by omega)) (fun j d hd => ?_) (fun j d hd => ?_) (fun j hj => .same (.same (.same (.same (.same (.same (.same (.un .nil)))))))) PassesOwn.never) ?_
    · obtain ⟨hj, rfl⟩ := range_get hd
      exact dg_name 7 scOpta.nd
    · obtain ⟨hj, rfl⟩ := range_get hd
      have q1 := avBot_bd W V hk hj
      have lc := lt_cross (a := topOf p t (bestP p t) k) (c := avTop p t (bestP p t) k j) hbot q1.1
      rw [← avQ W t V hk hj] at lc
      have lc' : qv p t (valQ p t (bestP p t)) k j < valQ p t (bestP p t) k ↔ _ := lc
      have le := bestP_ge W t hk hj
      have os := oaRow_succ p t k j
      have tst := fun (X : Cx) => True.intro
      by_cases c : qv p t (valQ p t (bestP p t)) k j = valQ p t (bestP p t) k
      · rw [if_pos c] at os
        have hf : ¬ (avTop p t (bestP p t) k j * bot p (bestP p t) < topOf p t (bestP p t) k * avBot p (bestP p t) k j) := fun z => by
          have := lc'.mpr z
          rw [c] at this
          exact absurd this Rat.lt_irrefl
        refine db_one (ds_if (k := true) (dt_is (dt_not (dt_val (de_call gG hr1 (da_cons (dv 5) (da_cons (de_call gA hr3 (da_cons (dv 0) (da_cons (dv 1) (da_cons (dv 2) (da_cons (dv 4) (da_cons (dv 7) da_nil))))) ⟨p, t, _, k, j, rfl, W, ht, V, hk, hj, rfl⟩) da_nil)) ⟨_, _, _, _, rfl, ⟨hbot, by omega⟩, ⟨q1.1, by omega⟩, rfl⟩))) (by rw [decide_eq_false hf]; rfl)) (fun _ => ?_) (fun h => by cases h))
        refine db_to (db_one (ds_append 6 (dv 7) (sz_lt (m := 3) ?_ rfl))) ?_
        · rw [List.length_map]
          exact Nat.le_trans (List.length_filter_le _ _) (by rw [List.length_range]; omega)
        · rw [os, List.map_append]
          rfl
      · rw [if_neg c, List.append_nil] at os
        have hf : avTop p t (bestP p t) k j * bot p (bestP p t) < topOf p t (bestP p t) k * avBot p (bestP p t) k j := lc'.mp (by grind)
        refine db_one (ds_if (k := false) (dt_is (dt_not (dt_val (de_call gG hr1 (da_cons (dv 5) (da_cons (de_call gA hr3 (da_cons (dv 0) (da_cons (dv 1) (da_cons (dv 2) (da_cons (dv 4) (da_cons (dv 7) da_nil))))) ⟨p, t, _, k, j, rfl, W, ht, V, hk, hj, rfl⟩) da_nil)) ⟨_, _, _, _, rfl, ⟨hbot, by omega⟩, ⟨q1.1, by omega⟩, rfl⟩))) (by rw [decide_eq_true hf]; rfl)) (fun h => by cases h) (fun _ => ?_))
        refine db_to db_nil ?_
        rw [os]
    · rw [List.length_map, List.length_range]
      have hol : (oaD p t k).length ≤ 4 := by unfold oaD; rw [range_len]; omega
      refine db_forget (db_freeze 6 (db_to (db_one (ds_append 3 (dv 6) (sz_lt hol rfl))) rfl)) ?_
      have e : oaD p t k ++ [D.lst ((oaRow p t k p.actionCount).map fun (x : Nat) => D.int (x : Int))] = oaD p t (k + 1) := by
        unfold oaD
        rw [List.range_succ, List.map_append]
        simp only [List.map_cons, List.map_nil, natD, intD, List.map_map]
        rfl
      rw [← e]
      exact .same (.same (.same (.same (.un (.un (.un (.un .nil)))))))
  · refine db_one (ds_to (ds_retO 3) ?_)
    rw [List.length_map, List.length_range, allOpt_eq W]
    congr 1
    unfold oaD natRows rowsD natD
    rw [List.map_map, List.map_map]
    rfl
def R_optp : List D → D → Prop := fun ds d => ∃ p t, ds = [.proc p, .int (t : Nat)] ∧ PWf p ∧ t ≤ 1 ∧ d = natD (optP p t)
abbrev sOptp : Stmt := top 29
abbrev nOptp : List Str := ["process", "table", "row"]
theorem scOptp : FnScope nOptp ["process", "table"] (defScope sOptp) := ⟨rfl, rfl, rfl, by decide +kernel, rfl, by decide +kernel, by decide +kernel⟩
theorem ok_optp (G : Fun K "optimal_policy" "optimal_policy" sOptp f fd) (gA : Cal P w K mg base 11 "optimal_actions" (spD K C R_opta)) : FnOk P w K mg base CX0 12 f fd ["process", "table"] (spD K C R_optp) := by
  refine pure_def G scOptp (fun ds d ⟨_, _, h, _⟩ => by rw [h]; rfl) fun cdv A outer s H E hr ds d h => ?_
  obtain ⟨p, t, rfl, W, ht, rfl⟩ := h
  have hn4 := W.n4
  refine db_one (ds_ret (de_of (dn_lc (n := "row") (i := 2) (di_list (de_call gA hr (da_cons (dv 0) (da_cons (dv 1) da_nil)) ⟨p, t, rfl, W, ht, rfl⟩)) (blkOk_by (N := nOptp) (sc := defScope sOptp) (by decide +kernel)) scOptp.nd (fun _ _ _ _ _ => pg_name (i := 2) scOptp.nd rfl (Or.inl rfl)) ?_ ?_ (fun i d e hd he s H C' cl fp => ?_))))
  · rw [allOpt_eq W]; simp [optP]
  · refine sz_le (m := 4) ?_ rfl
    rw [allOpt_eq W]; simp; omega
  · rw [allOpt_eq W, List.map_map, List.map_map] at hd
    unfold optP at he
    rw [List.map_map, List.map_map] at he
    obtain ⟨hi, rfl⟩ := range_mget hd
    obtain ⟨_, rfl⟩ := range_mget he
    refine de_ixL (dv 2) de_int (atI_nat (j := 0) ?_)
    simp only [Function.comp]
    rw [List.map_map, List.getElem?_map, (head_mem (oaRow_ne W t hi)).2]
    rfl
def R_vf : List D → D → Prop := fun ds d => ∃ p t π, ds = [pvD p t π] ∧ PWf p ∧ t ≤ 1 ∧ VPol p π ∧ d = .lst ((pvL p t π).map frD)
abbrev sVf : Stmt := top 30
abbrev nVf : List Str := ["values", "top"]
theorem scVf : FnScope nVf ["values"] (defScope sVf) := ⟨rfl, rfl, rfl, by decide +kernel, rfl, by decide +kernel, by decide +kernel⟩
theorem ok_vf (G : Fun K "value_fractions" "value_fractions" sVf f fd) (gL : Cal P w K mg base 2 "lowest" (spD K C R_lowest)) : FnOk P w K mg base CX0 3 f fd ["values"] (spD K C R_vf) := by
  refine pure_def G scVf (fun ds d ⟨_, _, _, h, _⟩ => by rw [h]; rfl) fun cdv A outer s H E hr ds d h => ?_
  obtain ⟨p, t, π, rfl, W, ht, V, rfl⟩ := h
  have hn4 := W.n4
  have b1 := bot_pos W V
  have b2 := bot_abs W V
  refine db_one (ds_ret (de_of (dn_lc (n := "top") (i := 1) (di_list (de_ixT (dv 0) de_int)) (blkOk_by (N := nVf) (sc := defScope sVf) (by decide +kernel)) scVf.nd (fun _ _ _ _ _ => pg_name (i := 1) scVf.nd rfl (Or.inl rfl)) ?_ ?_ (fun i d e hd he s H C' cl fp => ?_))))
  · simp [pvL]
  · exact sz_le (m := 4) (by simp; omega) rfl
  · unfold pvL at he
    rw [List.map_map] at hd he
    obtain ⟨hi, rfl⟩ := range_mget hd
    obtain ⟨_, rfl⟩ := range_mget he
    exact de_call gL hr (da_cons (dv 1) (da_cons (de_ixT (dv 0) de_int) da_nil)) ⟨_, _, rfl, b1, Nat.lt_of_lt_of_le b2 (Nat.pow_le_pow_right (by decide) (by decide)), rfl⟩
def R_regr : List D → D → Prop := fun ds d => ∃ p, ds = [.proc p] ∧ PWf p ∧ d = .lst ((Kp389.regrets p).map frD)
abbrev sRegr : Stmt := top 31
abbrev nRegr : List Str := ["process", "best", "own", "found", "state"]
theorem scRegr : FnScope nRegr ["process"] (defScope sRegr) := ⟨rfl, rfl, rfl, by decide +kernel, rfl, by decide +kernel, by decide +kernel⟩
def rgU (p : Kp389.Process) (k : Nat) : List D := (List.range k).map fun s => frD (valQ p 1 (bestP p 1) s - valQ p 1 (optP p 0) s)
theorem ok_regr (G : Fun K "regrets" "regrets" sRegr f fd) (g : PG1 P w K mg base C) (gO : Cal P w K mg base 10 "optimal_values" (spD K C R_optv)) (gV : Cal P w K mg base 7 "policy_values" (spD K C R_pv)) (gP : Cal P w K mg base 12 "optimal_policy" (spD K C R_optp)) (gL : Cal P w K mg base 2 "lowest" (spD K C R_lowest)) : FnOk P w K mg base CX0 13 f fd ["process"] (spD K C R_regr) := by
  refine pure_def G scRegr (fun ds d ⟨_, h, _⟩ => by rw [h]; rfl) fun cdv A outer s H E hr ds d h => ?_
  obtain ⟨p, rfl, W, rfl⟩ := h
  have hr2 : Room 2 _ := hr.mono (by decide)
  have hr7 : Room 7 _ := hr.mono (by decide)
  have hr10 : Room 10 _ := hr.mono (by decide)
  have hn4 := W.n4
  have V1 := bestP_pol W 1
  have V2 := optP_pol W 0
  have b1 := bot_pos W V1
  have c1 := bot_abs W V1
  have b2 := bot_pos W V2
  have c2 := bot_abs W V2
  refine db_cons (ds_set 1 (de_call gO hr10 (da_cons (dv 0) (da_cons de_int da_nil)) ⟨p, 1, rfl, W, by decide, rfl⟩) scRegr.nd) ?_
  refine db_cons (ds_set 2 (de_call gV hr7 (da_cons (dv 0) (da_cons de_int (da_cons (de_call gP hr (da_cons (dv 0) (da_cons de_int da_nil)) ⟨p, 0, rfl, W, by decide, rfl⟩) da_nil))) ⟨p, 1, _, rfl, W, by decide, V2, rfl⟩) scRegr.nd) ?_
  refine db_cons (ds_setN 3 (dn_lst da_nil) scRegr.nd) ?_
  refine db_cons (ds_for (ds := (List.range p.stateCount).map fun (k : Nat) => D.int (k : Int)) (fun _ => F0)
    (fun k => [.dat (.proc p), .dat (pvD p 1 (bestP p 1)), .dat (pvD p 1 (optP p 0)), .own (rgU p k), .un])
    (fun k => [.dat (.proc p), .dat (pvD p 1 (bestP p 1)), .dat (pvD p 1 (optP p 0)), .own (rgU p k), .dat (.int k)])
    (fun k => [.dat (.proc p), .dat (pvD p 1 (bestP p 1)), .dat (pvD p 1 (optP p 0)), .own (rgU p (k + 1)), .dat (.int k)])
    (di_rangeN g.nR (de_fld pf_states g.T.cl g.T.n1 (dv 0)) (by omega)) (fun k d hd => ?_) (fun k d hd => ?_) (fun k hk => .same (.same (.same (.same (.un .nil))))) PassesOwn.never) ?_
  · obtain ⟨hk, rfl⟩ := range_get hd
    exact dg_name 4 scRegr.nd
  · obtain ⟨hk, rfl⟩ := range_get hd
    have hol : (rgU p k).length ≤ 4 := by unfold rgU; rw [range_len]; omega
    have tk : ∀ π, ((List.range p.stateCount).map (topOf p 1 π))[k]? = some (topOf p 1 π k) := fun π => by rw [List.getElem?_map, List.getElem?_range hk]; rfl
    refine db_to (db_one (ds_append 3 (de_call gL hr2 (da_cons (de_sub (de_mul (de_ixL (de_ixT (dv 1) de_int) (dv 4) (int_at (tk _))) (de_ixT (dv 2) de_int) (mulS ⟨by omega, by omega⟩)) (de_mul (de_ixL (de_ixT (dv 2) de_int) (dv 4) (int_at (tk _))) (de_ixT (dv 1) de_int) (mulS ⟨by omega, by omega⟩))) (da_cons (de_mul (de_ixT (dv 1) de_int) (de_ixT (dv 2) de_int) (mulS ⟨by omega, by omega⟩)) da_nil)) ⟨_, _, rfl, Int.mul_pos b1 b2, ?_, rfl⟩) (sz_lt hol rfl))) ?_
    · rw [Int.natAbs_mul]
      exact Nat.lt_of_lt_of_le (Nat.mul_lt_mul'' c1 c2) (by rw [← Nat.pow_add]; exact Nat.pow_le_pow_right (by decide) (by decide))
    · unfold rgU
      rw [List.range_succ, List.map_append]
      have n1 := castne b1
      have n2 := castne b2
      have e : mkQ (topOf p 1 (bestP p 1) k * bot p (optP p 0) - topOf p 1 (optP p 0) k * bot p (bestP p 1)) (bot p (bestP p 1) * bot p (optP p 0)) = valQ p 1 (bestP p 1) k - valQ p 1 (optP p 0) k := by
        unfold mkQ valQ
        rw [Rat.intCast_sub, Rat.intCast_mul, Rat.intCast_mul, Rat.intCast_mul]
        grind
      rw [e]
      rfl
  · refine db_one (ds_to (ds_retO 3) ?_)
    rw [List.length_map, List.length_range, regrets_eq W, List.map_map]
    rfl
end
end Sw
namespace Sw
open Kp389 (Process)
/-! ### episodes -/
def trs : Nat → List (Nat × Nat) → List (Nat × Nat × Nat)
  | _, [] => []
  | s, (a, q) :: r => (s, a, q) :: trs q r
def endOf : Nat → List (Nat × Nat) → Nat
  | s, [] => s
  | _, (_, q) :: r => endOf q r
theorem trs_len : ∀ (s : Nat) (l : List (Nat × Nat)), (trs s l).length = l.length
  | _, [] => rfl
  | _, (_, q) :: r => by simp [trs, trs_len q r]
theorem trs_snoc : ∀ (s : Nat) (l : List (Nat × Nat)) (a q : Nat), trs s (l ++ [(a, q)]) = trs s l ++ [(endOf s l, a, q)]
  | _, [], _, _ => rfl
  | _, (b, q') :: r, a, q => by simp [trs, endOf, trs_snoc q' r a q]
theorem endOf_snoc : ∀ (s : Nat) (l : List (Nat × Nat)) (a q : Nat), endOf s (l ++ [(a, q)]) = q
  | _, [], _, _ => rfl
  | _, (b, q') :: r, a, q => by simp [endOf, endOf_snoc q' r a q]
def StOk (p : Process) : Nat → List (Nat × Nat) → Prop
  | s, [] => s < p.stateCount
  | s, (a, q) :: r => s < p.stateCount ∧ a < p.actionCount ∧ StOk p q r
theorem StOk.first {p : Process} : ∀ {s : Nat} {l : List (Nat × Nat)}, StOk p s l → s < p.stateCount
  | _, [], h => h
  | _, (_, _) :: _, h => h.1
theorem StOk.last {p : Process} : ∀ {s : Nat} {l : List (Nat × Nat)}, StOk p s l → endOf s l < p.stateCount
  | _, [], h => h
  | _, (_, q) :: r, h => StOk.last (s := q) (l := r) h.2.2
theorem StOk.mem {p : Process} : ∀ {s : Nat} {l : List (Nat × Nat)}, StOk p s l → ∀ x ∈ trs s l, x.1 < p.stateCount ∧ x.2.1 < p.actionCount ∧ x.2.2 < p.stateCount
  | _, [], _, x, hx => by cases hx
  | s, (a, q) :: r, h, x, hx => by
    rcases List.mem_cons.mp hx with rfl | hx
    · exact ⟨h.1, h.2.1, StOk.first h.2.2⟩
    · exact StOk.mem h.2.2 x hx
theorem trs_last : ∀ (s : Nat) (l : List (Nat × Nat)), l ≠ [] → ∃ a b, (trs s l).getLast? = some (a, b, endOf s l)
  | _, [], h => absurd rfl h
  | s, [(a, q)], _ => ⟨s, a, rfl⟩
  | s, (a, q) :: (b, q') :: r, _ => by
    obtain ⟨c, d, h⟩ := trs_last q ((b, q') :: r) (by simp)
    refine ⟨c, d, ?_⟩
    simp only [trs, endOf] at h ⊢
    rw [List.getLast?_cons_cons]
    exact h
theorem lastState_eq (s : Nat) (l : List (Nat × Nat)) (r0 r1 : Rat) : Kp390.lastState ⟨s, l, r0, r1⟩ = endOf s l := by
  unfold Kp390.lastState
  have : ∀ (s : Nat) (l : List (Nat × Nat)), (match l.getLast? with | none => s | some x => x.2) = endOf s l := by
    intro s l
    induction l generalizing s with
    | nil => rfl
    | cons x l ih =>
      cases l with
      | nil => rfl
      | cons y l =>
        rw [List.getLast?_cons_cons]
        have := ih x.2
        simp only [endOf] at this ⊢
        rw [← this]
        cases h : (y :: l).getLast? with
        | none => simp at h
        | some z => rfl
  exact this s l
/-! the next state -/
theorem nextState_spec {w : List Nat} {r : Nat} (hr : r ≤ 999) (hs : 0 < w.sum) (hl : w ≠ []) :
    Kp390.nextState w r < w.length ∧ r * w.sum < 1000 * (w.take (Kp390.nextState w r + 1)).sum ∧ ∀ k, k < Kp390.nextState w r → ¬ r * w.sum < 1000 * (w.take (k + 1)).sum := by
  unfold Kp390.nextState
  have hlen : 0 < w.length := List.length_pos_iff.mpr hl
  have hw : r * w.sum < 1000 * (w.take (w.length - 1 + 1)).sum := by
    rw [List.take_of_length_le (by omega)]
    exact Nat.lt_of_le_of_lt (Nat.mul_le_mul_right _ hr) (by omega)
  cases h : (List.range w.length).find? fun q => decide (r * w.sum < 1000 * (w.take (q + 1)).sum) with
  | none =>
    have := List.find?_eq_none.mp h (w.length - 1) (List.mem_range.mpr (by omega))
    exact absurd (decide_eq_true hw) this
  | some q =>
    rw [List.find?_range_eq_some] at h
    obtain ⟨h1, h2, h3⟩ := h
    refine ⟨List.mem_range.mp h2, of_decide_eq_true h1, fun k hk => ?_⟩
    have := h3 k hk
    simpa using this
theorem sim_snoc (p : Process) (π : List Nat) : ∀ (s : Nat) (l : List Nat) (r : Nat), Kp390.simulate p π s (l ++ [r]) = Kp390.simulate p π s l ++ [(π.getD (endOf s (Kp390.simulate p π s l)) 0, Kp390.nextState (Kp389.weights p (endOf s (Kp390.simulate p π s l)) (π.getD (endOf s (Kp390.simulate p π s l)) 0)) r)]
  | _, [], _ => rfl
  | s, x :: l, r => by
    simp only [List.cons_append, Kp390.simulate, endOf]
    rw [sim_snoc p π _ l r]
theorem sim_len (p : Process) (π : List Nat) : ∀ (s : Nat) (l : List Nat), (Kp390.simulate p π s l).length = l.length
  | _, [] => rfl
  | s, x :: l => by simp [Kp390.simulate, sim_len p π _ l]
theorem PWf.next {p : Process} (W : PWf p) {s a r : Nat} (hs : s < p.stateCount) (ha : a < p.actionCount) (hr : r ≤ 999) :
    Kp390.nextState (Kp389.weights p s a) r < p.stateCount ∧ r * (Kp389.weights p s a).sum < 1000 * ((Kp389.weights p s a).take (Kp390.nextState (Kp389.weights p s a) r + 1)).sum ∧ ∀ k, k < Kp390.nextState (Kp389.weights p s a) r → ¬ r * (Kp389.weights p s a).sum < 1000 * ((Kp389.weights p s a).take (k + 1)).sum := by
  have h := nextState_spec (w := Kp389.weights p s a) hr (W.wpos hs ha) (fun z => by
    have := W.wlen hs ha
    rw [z] at this
    have := W.n2
    simp at *
    omega)
  rw [W.wlen hs ha] at h
  exact h
theorem sim_ok {p : Process} (W : PWf p) {π : List Nat} (V : VPol p π) : ∀ {s : Nat} {l : List Nat}, s < p.stateCount → (∀ x ∈ l, x ≤ 999) → StOk p s (Kp390.simulate p π s l)
  | _, [], hs, _ => hs
  | s, x :: l, hs, h => ⟨hs, V.lt s hs, sim_ok W V (W.next hs (V.lt s hs) (h x List.mem_cons_self)).1 fun y hy => h y (List.mem_cons_of_mem _ hy)⟩
/-! returns -/
def rv (p : Process) (t : Nat) : List (Nat × Nat × Nat) → Int × Int
  | [] => (0, 1)
  | x :: r => (Kp389.reward p t x.1 x.2.1 x.2.2 * (p.discountDen : Int) * (rv p t r).2 + (p.discountNum : Int) * (rv p t r).1, (p.discountDen : Int) * (rv p t r).2)
theorem rv_bd {p : Process} (W : PWf p) (t : Nat) : ∀ (l : List (Nat × Nat × Nat)), 0 < (rv p t l).2 ∧ (rv p t l).2 ≤ 10 ^ l.length ∧ (rv p t l).1.natAbs ≤ l.length * 100000 * (rv p t l).2.natAbs
  | [] => by simp [rv]
  | x :: l => by
    obtain ⟨h1, h2, h3⟩ := rv_bd W t l
    have hg := W.g1
    have hgh := W.gh
    have h10 := W.h10
    simp only [rv]
    refine ⟨Int.mul_pos (by omega) h1, ?_, ?_⟩
    · rw [List.length_cons, Int.pow_succ, Int.mul_comm]
      exact Int.mul_le_mul h2 (by omega) (by omega) (Int.pow_nonneg (by decide))
    · have e1 := Int.natAbs_add_le (Kp389.reward p t x.1 x.2.1 x.2.2 * (p.discountDen : Int) * (rv p t l).2) ((p.discountNum : Int) * (rv p t l).1)
      refine Nat.le_trans e1 ?_
      rw [Int.natAbs_mul, Int.natAbs_mul, Int.natAbs_mul, Int.natAbs_mul, List.length_cons]
      have hB : ((p.discountDen : Int)).natAbs = p.discountDen := by simp
      have hG : ((p.discountNum : Int)).natAbs = p.discountNum := by simp
      rw [hB, hG]
      have a1 : (Kp389.reward p t x.1 x.2.1 x.2.2).natAbs * p.discountDen * (rv p t l).2.natAbs ≤ 100000 * p.discountDen * (rv p t l).2.natAbs := Nat.mul_le_mul_right _ (Nat.mul_le_mul_right _ (rew_abs W t _ _ _))
      have a2 : p.discountNum * (rv p t l).1.natAbs ≤ p.discountDen * (l.length * 100000 * (rv p t l).2.natAbs) := Nat.mul_le_mul (by omega) h3
      refine Nat.le_trans (Nat.add_le_add a1 a2) (Nat.le_of_eq ?_)
      grind
theorem ret_eq {p : Process} (W : PWf p) (t : Nat) : ∀ (s : Nat) (l : List (Nat × Nat)), Kp390.discountedReturn p t s l = mkQ (rv p t (trs s l)).1 (rv p t (trs s l)).2
  | s, [] => by simp only [Kp390.discountedReturn, trs, rv, mkQ]; show (0 : Rat) = 0 / 1; grind
  | s, (a, q) :: l => by
    have hb := (rv_bd W t (trs q l)).1
    have h0 := W.h_pos
    simp only [Kp390.discountedReturn, trs, rv]
    rw [ret_eq W t q l]
    generalize rv p t (trs q l) = z at hb ⊢
    have n1 := castne hb
    have n2 : (p.discountDen : Rat) ≠ 0 := by grind
    unfold mkQ Kp389.discount
    rw [Rat.intCast_add, Rat.intCast_mul, Rat.intCast_mul, Rat.intCast_mul, Rat.intCast_mul]
    have e2 : (((p.discountDen : Nat) : Int) : Rat) = (p.discountDen : Rat) := rfl
    have e2' : (((p.discountNum : Nat) : Int) : Rat) = (p.discountNum : Rat) := rfl
    rw [e2, e2']
    grind
/-! ### how long fractions are -/
structure QB (e : Nat) (q : Rat) : Prop where
  n : q.num.natAbs < 2 ^ e
  d : q.den < 2 ^ e
theorem QB.mono {e f : Nat} {q : Rat} (h : QB e q) (l : e ≤ f) : QB f q := ⟨Nat.lt_of_lt_of_le h.n (Nat.pow_le_pow_right (by decide) l), Nat.lt_of_lt_of_le h.d (Nat.pow_le_pow_right (by decide) l)⟩
theorem mkQ_QB {a b : Int} {e : Nat} (hb : 0 < b) (ha : a.natAbs < 2 ^ e) (hb2 : b.natAbs < 2 ^ e) : QB e (mkQ a b) := by
  have gp : 0 < Nat.gcd a.natAbs b.natAbs := Nat.gcd_pos_of_pos_right _ (by omega)
  refine ⟨?_, ?_⟩
  · rw [mkQ_num hb]
    refine Nat.lt_of_le_of_lt ?_ ha
    rw [Int.natAbs_ediv_of_dvd (Int.ofNat_dvd_left.mpr (Nat.gcd_dvd_left _ _)), Int.natAbs_natCast]
    exact Nat.div_le_self _ _
  · have h := mkQ_den (a := a) hb
    have h2 : b = ((b.natAbs : Nat) : Int) := by omega
    rw [h2, ← Int.natCast_ediv, Int.natAbs_natCast] at h
    have h3 : (mkQ a (b.natAbs : Nat)).den = b.natAbs / Nat.gcd a.natAbs b.natAbs := Int.ofNat_inj.mp h
    rw [← h2] at h3
    rw [h3]
    exact Nat.lt_of_le_of_lt (Nat.div_le_self _ _) hb2
theorem mkQ_self (q : Rat) : mkQ q.num q.den = q := by
  have := Rat.num_divInt_den q
  rw [Rat.divInt_eq_div] at this
  exact this
theorem den_posI (q : Rat) : (0 : Int) < (q.den : Int) := by have := q.den_pos; omega
theorem QB.add {a b : Nat} {q r : Rat} (h : QB a q) (g : QB b r) : QB (a + b + 1) (q + r) := by
  have d1 := den_posI q
  have d2 := den_posI r
  have e : q + r = mkQ (q.num * r.den + r.num * q.den) (q.den * r.den) := by
    have h1 := mkQ_self q
    have h2 := mkQ_self r
    conv => lhs; rw [← h1, ← h2]
    have n1 := castne d1
    have n2 := castne d2
    unfold mkQ
    rw [Rat.intCast_add, Rat.intCast_mul, Rat.intCast_mul, Rat.intCast_mul]
    grind
  have hp : (2 : Nat) ^ (a + b + 1) = 2 ^ a * 2 ^ b + 2 ^ a * 2 ^ b := by rw [Nat.pow_succ, Nat.pow_add]; omega
  rw [e]
  refine mkQ_QB (Int.mul_pos d1 d2) ?_ ?_
  · have e1 := Int.natAbs_add_le (q.num * r.den) (r.num * q.den)
    rw [Int.natAbs_mul, Int.natAbs_mul, Int.natAbs_natCast, Int.natAbs_natCast] at e1
    have e2 : q.num.natAbs * r.den < 2 ^ a * 2 ^ b := Nat.mul_lt_mul'' h.n g.d
    have e3 : r.num.natAbs * q.den < 2 ^ b * 2 ^ a := Nat.mul_lt_mul'' g.n h.d
    rw [Nat.mul_comm (2 ^ b)] at e3
    omega
  · rw [Int.natAbs_mul, Int.natAbs_natCast, Int.natAbs_natCast]
    have e2 : q.den * r.den < 2 ^ a * 2 ^ b := Nat.mul_lt_mul'' h.d g.d
    omega
theorem QB.neg {a : Nat} {q : Rat} (h : QB a q) : QB a (-q) := ⟨by rw [Rat.neg_num, Int.natAbs_neg]; exact h.n, by rw [Rat.neg_den]; exact h.d⟩
theorem QB.sub {a b : Nat} {q r : Rat} (h : QB a q) (g : QB b r) : QB (a + b + 1) (q - r) := by rw [Rat.sub_eq_add_neg]; exact h.add g.neg
theorem QB.mul {a b : Nat} {q r : Rat} (h : QB a q) (g : QB b r) : QB (a + b) (q * r) := by
  have d1 := den_posI q
  have d2 := den_posI r
  have e : q * r = mkQ (q.num * r.num) (q.den * r.den) := by
    have h1 := mkQ_self q
    have h2 := mkQ_self r
    conv => lhs; rw [← h1, ← h2]
    have n1 := castne d1
    have n2 := castne d2
    unfold mkQ
    rw [Rat.intCast_mul, Rat.intCast_mul]
    grind
  have hp : (2 : Nat) ^ (a + b) = 2 ^ a * 2 ^ b := Nat.pow_add ..
  rw [e]
  refine mkQ_QB (Int.mul_pos d1 d2) ?_ ?_
  · rw [Int.natAbs_mul, hp]
    exact Nat.mul_lt_mul'' h.n g.n
  · rw [Int.natAbs_mul, hp, Int.natAbs_natCast, Int.natAbs_natCast]
    exact Nat.mul_lt_mul'' h.d g.d
theorem disc_QB {p : Process} (W : PWf p) : ∀ k : Nat, QB (4 * k + 1) (Kp389.discount p ^ k)
  | 0 => by rw [Rat.pow_zero]; exact ⟨by decide, by decide⟩
  | k + 1 => by
    rw [Rat.pow_succ]
    have hg := W.g1
    have hgh := W.gh
    have h10 := W.h10
    have : QB 4 (Kp389.discount p) := mkQ_QB (a := p.discountNum) (b := p.discountDen) (e := 4) (by omega) (by omega) (by omega)
    exact ((disc_QB W k).mul this).mono (by omega)
theorem ret_QB {p : Process} (W : PWf p) (t s : Nat) {l : List (Nat × Nat)} (hl : l.length ≤ 6) : QB 50 (Kp390.discountedReturn p t s l) := by
  obtain ⟨h1, h2, h3⟩ := rv_bd W t (trs s l)
  rw [trs_len] at h2 h3
  have e1 : (10 : Int) ^ l.length ≤ 10 ^ 6 := by
    have : (10 : Nat) ^ l.length ≤ 10 ^ 6 := Nat.pow_le_pow_right (by decide) hl
    exact_mod_cast this
  rw [ret_eq W]
  have e2 : (rv p t (trs s l)).2 ≤ 1000000 := Int.le_trans h2 e1
  have e3 : l.length * 100000 * (rv p t (trs s l)).2.natAbs ≤ 6 * 100000 * 1000000 := Nat.mul_le_mul (Nat.mul_le_mul_right _ hl) (by omega)
  exact mkQ_QB h1 (by omega) (by omega)
theorem pot_QB {p : Process} (W : PWf p) {s : Nat} (hs : s < p.stateCount) : QB 30 ((Kp389.potentialsOf p (Kp389.difference p)).getD s 0) := by
  have hm := W.m1
  rw [pots_get hs, rin_diff W hs (by omega) hs, W.subq]
  have hd := W.dq
  have hg := W.g1
  have hgh := W.gh
  have h10 := W.h10
  have b0 : (Kp389.rewardIn p p.rewards0 s 0 s).natAbs ≤ 100000 := rew_abs W 0 s 0 s
  have b1 : (Kp389.rewardIn p p.rewards1 s 0 s).natAbs ≤ 100000 := rew_abs W 1 s 0 s
  have e : -(((Kp389.rewardIn p p.rewards1 s 0 s - Kp389.rewardIn p p.rewards0 s 0 s : Int)) : Rat) * ((p.discountDen : Rat) / ((p.discountDen : Rat) - (p.discountNum : Rat))) = mkQ (-(Kp389.rewardIn p p.rewards1 s 0 s - Kp389.rewardIn p p.rewards0 s 0 s) * (p.discountDen : Int)) ((p.discountDen : Int) - (p.discountNum : Int)) := by
    unfold mkQ
    have e2 : (((p.discountDen : Int) - (p.discountNum : Int) : Int) : Rat) = (p.discountDen : Rat) - (p.discountNum : Rat) := by rw [Rat.intCast_sub]; rfl
    rw [Rat.intCast_mul, Rat.intCast_neg, e2]
    have e3 : (((p.discountDen : Nat) : Int) : Rat) = (p.discountDen : Rat) := rfl
    rw [e3]
    generalize (p.discountDen : Rat) - (p.discountNum : Rat) = z at hd ⊢
    have : z ≠ 0 := by grind
    grind
  rw [e]
  refine mkQ_QB (by omega) ?_ (by omega)
  rw [Int.natAbs_mul]
  have : (-(Kp389.rewardIn p p.rewards1 s 0 s - Kp389.rewardIn p p.rewards0 s 0 s)).natAbs * ((p.discountDen : Int)).natAbs ≤ 200000 * 10 := Nat.mul_le_mul (by omega) (by omega)
  omega
end Sw
namespace Sw
open PySem PySem.Spec PyProof.Rows L2
section
variable {C : Addr} {X : Cx} {M : Mt} {F F1 F2 : Fm} {δ δ1 δ2 : List SD} {o : Out} {a b c e tg iter : Expr} {pos : Pos}
theorem ds_from {st : Stmt} (h : DS C X M st F δ o) (q : δ1 = δ) : DS C X M st F δ1 o := q ▸ h
/-- x, found, z = e, [], g -/
theorem ds_par3N (i j l : Nat) {x y z : Str} {es2 : List D} {d1 d3 : D} {px py pz pt : Pos} {kt k2 pt2} (ha : DE C X a F δ d1) (hb : DN C X b F δ es2) (hc' : DE C X c F δ d3) (hN : X.N.Nodup) (hM : ∀ b, ¬ M b := by intro _; exact id) (hi : X.N[i]? = some x := by rfl) (hj : X.N[j]? = some y := by rfl) (hl : X.N[l]? = some z := by rfl)
    (hij : i ≠ j := by decide) (hil : i ≠ l := by decide) (hjl : j ≠ l := by decide) (hc : X.calm = true := by rfl)
    (hx : X.env.scope.names.lookup x = some .local := by rfl) (hy : X.env.scope.names.lookup y = some .local := by rfl) (hz : X.env.scope.names.lookup z = some .local := by rfl)
    (hse : starEach (a :: [b, c]) X.env = (false, eval a X.env) :: starEach [b, c] X.env := by rfl) (hse2 : starEach (b :: [c]) X.env = (false, eval b X.env) :: starEach [c] X.env := by rfl) (hse3 : starEach (c :: []) X.env = (false, eval c X.env) :: starEach [] X.env := by rfl)
    (hw : swappedStores [.Tuple [.Name x px, .Name y py, .Name z pz] kt pt] (.Tuple [a, b, c] k2 pt2) X.env = pure (some [x, y, z]) := by rfl)
    (hs : swapsWithSole [.Tuple [.Name x px, .Name y py, .Name z pz] kt pt] (.Tuple [a, b, c] k2 pt2) pos.line X.env = pure false := by rfl) :
    DS C X M (.Assign [.Tuple [.Name x px, .Name y py, .Name z pz] kt pt] (.Tuple [a, b, c] k2 pt2) pos) F δ (.nx F (((δ.set i (.dat d1)).set j (.own es2)).set l (.dat d3))) :=
  ps_imp (ps_par3 hc hN hi hj hl hij hil hjl hx hy hz (pa_cons ha (pa_cons hb (pa_cons hc' pa_nil hse3) hse2) hse) hw hs) fun E σ A ⟨H0, A0, H, s, q⟩ => by
    refine (?_ : tCons (teD X.K C F δ d1) (tCons (teN X.K C F δ es2) (tCons (teD X.K C F δ d3) tNil)) σ A _)
    refine (of_DE s fun v H1 A1 s1 r1 => ?_ : teD X.K C F δ d1 σ A _)
    have rb : StA X.K C M F H1 A0 H1 A1 σ δ := ⟨.refl _, s1.aa, s1.at0, s1.ha, fun b z1 z2 => z1, s1.f, s1.sl⟩
    refine (of_DN (fun b z => absurd z (hM b)) rb fun p H2 A2 s2' s3 => ?_ : teN X.K C F δ es2 σ A1 _)
    refine (⟨M, A0, H2, s2'.ha, s2'.f, s2'.sl, fun u H3 A3 n3 r3 => ?_⟩ : teD X.K C F δ d3 σ A2 _)
    have s4 := (s3 j).nx n3
    have s5 := s4.sls (s4.sl.setD (i := i) (rp_mono (s2'.hh.trans n3.hh) _ _ r1))
    have s6 := s5.sls (s5.sl.setD (i := l) r3)
    rw [List.set_comm _ _ hij.symm, List.set_comm (SD.own es2) (SD.dat d1) hij.symm] at s6
    exact ⟨_, _, _, rfl, q _ _ _ (s1.rebase s6)⟩
end
section
variable {P : Program} {w : World} {K : PySem.W.Frag} {mg : Str → Option Value} {base : Heap} {C : Addr} {f : Addr} {fd : FuncData}
def R_next : List D → D → Prop := fun ds d => ∃ p s a r, ds = [.proc p, .int (s : Nat), .int (a : Nat), .int (r : Nat)] ∧ PWf p ∧ s < p.stateCount ∧ a < p.actionCount ∧ r ≤ 999 ∧ d = .int (Kp390.nextState (Kp389.weights p s a) r : Nat)
abbrev sNext : Stmt := top 34
abbrev nNext : List Str := ["process", "state", "action", "random", "weights", "found", "reached"]
theorem scNext : FnScope nNext ["process", "state", "action", "random"] (defScope sNext) := ⟨rfl, rfl, rfl, by decide +kernel, rfl, by decide +kernel, by decide +kernel⟩
theorem take_sum_succ {l : List Nat} {k : Nat} (h : k < l.length) : ((l.take (k + 1)).sum : Nat) = (l.take k).sum + l.getD k 0 := by
  rw [List.take_add_one, List.getD_eq_getElem?_getD, List.getElem?_eq_getElem h, List.sum_append]
  simp
theorem ok_next (G : Fun K "next_state" "next_state" sNext f fd) (g : PG1 P w K mg base C) (nS : MgN mg "sum") (nC : MgI mg "CHANCES" 1000) : FnOk P w K mg base CX0 2 f fd ["process", "state", "action", "random"] (spD K C R_next) := by
  refine pure_def G scNext (fun ds d ⟨_, _, _, _, h, _⟩ => by rw [h]; rfl) fun cdv A outer s' H E hr ds d h => ?_
  obtain ⟨p, s, a, r, rfl, W, hs, ha, hr9, rfl⟩ := h
  obtain ⟨n1, n2, n3⟩ := W.next hs ha hr9
  have wl := W.wlen hs ha
  have w36 := wsum36 W hs ha
  have gi : ∀ k, k < p.stateCount → (wI p s a)[k]? = some (((Kp389.weights p s a).getD k 0 : Nat) : Int) := fun k hk => wI_get W hs ha hk
  refine db_cons (ds_set 4 (de_meth g.wof hr g.T.cl nfWof (dv 0) (da_cons (dv 1) (da_cons (dv 2) da_nil)) ⟨p, s, a, rfl, W, hs, ha, rfl⟩) scNext.nd) ?_
  have hn2 := W.n2
  refine db_cons (ds_par 5 6 de_int (de_ixL (dv 4) de_int (int_at (j := 0) (gi 0 (by omega)))) scNext.nd) ?_
  refine db_cons (ds_from (ds_while (Kp390.nextState (Kp389.weights p s a) r) (fun _ => F0)
    (fun k => [.dat (.proc p), .dat (.int s), .dat (.int a), .dat (.int r), .dat (intD (wI p s a)), .dat (.int k), .dat (.int (((Kp389.weights p s a).take (k + 1)).sum : Nat))])
    (fun k => [.dat (.proc p), .dat (.int s), .dat (.int a), .dat (.int r), .dat (intD (wI p s a)), .dat (.int (k + 1 : Nat)), .dat (.int (((Kp389.weights p s a).take (k + 1 + 1)).sum : Nat))])
    (fun k hk => ?_) (fun k hk => ?_) (fun k hk => .same (.same (.same (.same (.same (.same (.same .nil))))))) PassesOwn.never) ?_) (db_one (ds_ret (dv 5)))
  · refine dt_is (dt_ge (de_mul (dv 3) (de_sum nS (dv 4)) (mulLz ⟨by omega, by omega⟩)) (de_mul (dg nC) (dv 6) (mulLz ⟨by decide, by decide⟩))) ?_
    rw [wI_sum]
    unfold wsum
    have e1 : ((r : Int) * (((Kp389.weights p s a).sum : Nat) : Int)) = ((r * (Kp389.weights p s a).sum : Nat) : Int) := by rw [Int.natCast_mul]
    have e2 : ((1000 : Int) * ((((Kp389.weights p s a).take (k + 1)).sum : Nat) : Int)) = ((1000 * ((Kp389.weights p s a).take (k + 1)).sum : Nat) : Int) := by rw [Int.natCast_mul]; rfl
    rw [e1, e2]
    by_cases c : k < Kp390.nextState (Kp389.weights p s a) r
    · have := n3 k c
      rw [decide_eq_true c]
      exact decide_eq_true (by omega)
    · have e : k = Kp390.nextState (Kp389.weights p s a) r := by omega
      rw [decide_eq_false c]
      rw [← e] at n2
      exact decide_eq_false (by omega)
  · refine db_cons (ds_aug 5 de_int scNext.nd) (db_one (ds_to (ds_aug 6 (de_ixL (dv 4) (de_is (dv 5) (by rfl : D.int ((k : Int) + 1) = D.int ((k + 1 : Nat) : Int))) (int_at (gi (k + 1) (by omega)))) scNext.nd) ?_))
    rw [take_sum_succ (k := k + 1) (by omega), Int.natCast_add]
    rfl
  · show [_, _, _, _, _, _, _] = _
    congr 6
    rw [take_sum_succ (k := 0) (by omega)]
    simp
end
end Sw
namespace Sw
open PySem PySem.Spec PyProof.Rows L2
section
variable {P : Program} {w : World} {K : PySem.W.Frag} {mg : Str → Option Value} {base : Heap} {C : Addr} {f : Addr} {fd : FuncData}
def stD (s : Nat) (l : List (Nat × Nat)) : D := .lst ((trs s l).map tripD)
def R_steps : List D → D → Prop := fun ds d => ∃ p t s rs, ds = [.proc p, .int (t : Nat), .int (s : Nat), natD rs] ∧ PWf p ∧ t ≤ 1 ∧ s < p.stateCount ∧ (∀ x ∈ rs, x ≤ 999) ∧ rs.length ≤ 6 ∧ d = stD s (Kp390.simulate p (optP p t) s rs)
abbrev sSteps : Stmt := top 35
abbrev nSteps : List Str := ["process", "table", "state", "randoms", "policy", "found", "here", "random", "later"]
theorem scSteps : FnScope nSteps ["process", "table", "state", "randoms"] (defScope sSteps) := ⟨rfl, rfl, rfl, by decide +kernel, rfl, by decide +kernel, by decide +kernel⟩
theorem ok_steps (G : Fun K "steps_from" "steps_from" sSteps f fd) (gP : Cal P w K mg base 12 "optimal_policy" (spD K C R_optp)) (gN : Cal P w K mg base 2 "next_state" (spD K C R_next)) : FnOk P w K mg base CX0 13 f fd ["process", "table", "state", "randoms"] (spD K C R_steps) := by
  refine pure_def G scSteps (fun ds d ⟨_, _, _, _, h, _⟩ => by rw [h]; rfl) fun cdv A outer s' H E hr ds d h => ?_
  obtain ⟨p, t, s, rs, rfl, W, ht, hs, h9, h6, rfl⟩ := h
  have hr2 : Room 2 _ := hr.mono (by decide)
  have V := optP_pol W t
  let π := optP p t
  refine db_cons (ds_par3N 4 5 6 (de_call gP hr (da_cons (dv 0) (da_cons (dv 1) da_nil)) ⟨p, t, rfl, W, ht, rfl⟩) (dn_lst da_nil) (dv 2) scSteps.nd) ?_
  refine db_cons (ds_for (ds := (rs.map fun (x : Nat) => (x : Int)).map D.int) (fun _ => F0)
    (fun k => [.dat (.proc p), .dat (.int t), .dat (.int s), .dat (natD rs), .dat (natD (optP p t)), .own ((trs s (Kp390.simulate p (optP p t) s (rs.take k))).map tripD), .dat (.int (endOf s (Kp390.simulate p (optP p t) s (rs.take k)) : Nat)), .un, .un])
    (fun k => [.dat (.proc p), .dat (.int t), .dat (.int s), .dat (natD rs), .dat (natD (optP p t)), .own ((trs s (Kp390.simulate p (optP p t) s (rs.take k))).map tripD), .dat (.int (endOf s (Kp390.simulate p (optP p t) s (rs.take k)) : Nat)), .dat (.int (rs.getD k 0 : Nat)), .un])
    (fun k => [.dat (.proc p), .dat (.int t), .dat (.int s), .dat (natD rs), .dat (natD (optP p t)), .own ((trs s (Kp390.simulate p (optP p t) s (rs.take (k + 1)))).map tripD), .dat (.int (endOf s (Kp390.simulate p (optP p t) s (rs.take (k + 1))) : Nat)), .un, .un])
    (di_list (dv 3)) (fun k d hd => ?_) (fun k d hd => ?_) (fun k hk => .same (.same (.same (.same (.same (.same (.same (.un (.un .nil))))))))) PassesOwn.never) ?_
  · rw [List.map_map] at hd
    obtain ⟨_, rfl, _⟩ := map_get 0 hd
    exact dg_name 7 scSteps.nd
  · rw [List.map_map] at hd
    obtain ⟨hk, _, hx⟩ := map_get 0 hd
    have hkl : k < rs.length := hk
    have ok := sim_ok W V hs (l := rs.take k) fun x hx => h9 x (List.mem_of_mem_take hx)
    have he := ok.last
    have hx9 := h9 _ (List.mem_of_getElem? hx)
    have tk : rs.take (k + 1) = rs.take k ++ [rs.getD k 0] := by rw [List.take_add_one, hx]; rfl
    have sn := sim_snoc p (optP p t) s (rs.take k) (rs.getD k 0)
    rw [← tk] at sn
    have hlen : ((trs s (Kp390.simulate p (optP p t) s (rs.take k))).map tripD).length ≤ 6 := by
      rw [List.length_map, trs_len, sim_len, List.length_take]; omega
    rw [sn, trs_snoc, endOf_snoc, List.map_append]
    generalize Kp390.simulate p (optP p t) s (rs.take k) = L at *
    generalize endOf s L = e at *
    refine db_forget (db_cons (ds_set 8 (de_call gN hr2 (da_cons (dv 0) (da_cons (dv 6) (da_cons (de_ixL (dv 4) (dv 6) (natD_at V he)) (da_cons (dv 7) da_nil)))) ⟨p, e, (optP p t).getD e 0, rs.getD k 0, rfl, W, he, V.lt e he, hx9, rfl⟩) scSteps.nd)
      (db_cons (ds_append 5 (de_tup (da_cons (dv 6) (da_cons (de_ixL (dv 4) (dv 6) (natD_at V he)) (da_cons (dv 8) da_nil)))) (sz_lt hlen rfl)) (db_one (ds_set 6 (dv 8) scSteps.nd)))) (.same (.same (.same (.same (.same (.same (.same (.un (.un .nil)))))))))
  · refine db_one (ds_to (ds_retO 5) ?_)
    rw [List.length_map, List.length_map, List.take_length]
    rfl
/-! ### returns -/
def R_ret : List D → D → Prop := fun ds d => ∃ p t s st, ds = [.proc p, .int (t : Nat), stD s st] ∧ PWf p ∧ t ≤ 1 ∧ StOk p s st ∧ st.length ≤ 6 ∧ d = frD (Kp390.discountedReturn p t s st)
abbrev sRet : Stmt := top 36
abbrev nRet : List Str := ["process", "table", "steps", "top", "bottom", "state", "action", "later", "reward"]
theorem scRet : FnScope nRet ["process", "table", "steps"] (defScope sRet) := ⟨rfl, rfl, rfl, by decide +kernel, rfl, by decide +kernel, by decide +kernel⟩
theorem ok_ret (G : Fun K "return_by" "return_by" sRet f fd) (g : PG1 P w K mg base C) (gL : Cal P w K mg base 2 "lowest" (spD K C R_lowest)) : FnOk P w K mg base CX0 3 f fd ["process", "table", "steps"] (spD K C R_ret) := by
  refine pure_def G scRet (fun ds d ⟨_, _, _, _, h, _⟩ => by rw [h]; rfl) fun cdv A outer s' H E hr ds d h => ?_
  obtain ⟨p, t, s, st, rfl, W, ht, ok, h6, rfl⟩ := h
  have hg := W.g1
  have hgh := W.gh
  have h10 := W.h10
  have hm := ok.mem
  rw [ret_eq W]
  have hL : (trs s st).length ≤ 6 := by rw [trs_len]; exact h6
  unfold stD
  generalize trs s st = L at *
  refine db_cons (ds_asg (de_tup (da_cons de_int (da_cons de_int da_nil))) (dg_tup (dgs_cons (dg_name 3 scRet.nd) (dgs_cons (dg_name 4 scRet.nd) dgs_nil)))) ?_
  refine db_cons (ds_from (ds_for (ds := (L.map tripD).reverse) (fun _ => F0)
    (fun k => [.dat (.proc p), .dat (.int t), .dat (.lst (L.map tripD)), .dat (.int (rv p t (L.drop (L.length - k))).1), .dat (.int (rv p t (L.drop (L.length - k))).2), .un, .un, .un, .un])
    (fun k => [.dat (.proc p), .dat (.int t), .dat (.lst (L.map tripD)), .dat (.int (rv p t (L.drop (L.length - k))).1), .dat (.int (rv p t (L.drop (L.length - k))).2), .dat (.int (L.reverse.getD k (0, 0, 0)).1), .dat (.int (L.reverse.getD k (0, 0, 0)).2.1), .dat (.int (L.reverse.getD k (0, 0, 0)).2.2), .un])
    (fun k => [.dat (.proc p), .dat (.int t), .dat (.lst (L.map tripD)), .dat (.int (rv p t (L.drop (L.length - (k + 1)))).1), .dat (.int (rv p t (L.drop (L.length - (k + 1)))).2), .un, .un, .un, .un])
    (di_list (de_of (dn_rev (dv 2)))) (fun k d hd => ?_) (fun k d hd => ?_) (fun k hk => .same (.same (.same (.same (.same (.un (.un (.un (.un .nil))))))))) PassesOwn.never) ?_) ?_
  · rw [← List.map_reverse] at hd
    obtain ⟨_, rfl, _⟩ := map_get (0, 0, 0) hd
    exact dg_tup (dgs_cons (dg_name 5 scRet.nd) (dgs_cons (dg_name 6 scRet.nd) (dgs_cons (dg_name 7 scRet.nd) dgs_nil)))
  · rw [← List.map_reverse] at hd
    obtain ⟨hk, _, hx⟩ := map_get (0, 0, 0) hd
    have hk' : k < L.length := by simpa using hk
    obtain ⟨m1, m2, m3⟩ := hm _ (List.mem_reverse.mp (List.mem_of_getElem? hx))
    have ed : L.drop (L.length - (k + 1)) = L.reverse.getD k (0, 0, 0) :: L.drop (L.length - k) := by
      have h1 : L.length - (k + 1) < L.length := by omega
      rw [List.drop_eq_getElem_cons h1]
      congr 1
      · rw [List.getD_eq_getElem?_getD, List.getElem?_eq_getElem (by simpa using hk), List.getElem_reverse]
        simp only [Option.getD_some]
        congr 1
        omega
      · congr 1; omega
    rw [ed]
    have hb := rv_bd W t (L.drop (L.length - k))
    have e1 : (10 : Int) ^ (L.drop (L.length - k)).length ≤ 10 ^ 6 := by
      have : (10 : Nat) ^ (L.drop (L.length - k)).length ≤ 10 ^ 6 := Nat.pow_le_pow_right (by decide) (by rw [List.length_drop]; omega)
      exact_mod_cast this
    have e2 : (rv p t (L.drop (L.length - k))).2 ≤ 1000000 := Int.le_trans hb.2.1 e1
    have rb := W.rwd t m1 m2 m3
    simp only [rv]
    generalize rv p t (L.drop (L.length - k)) = z at *
    generalize L.reverse.getD k (0, 0, 0) = x at *
    refine db_forget (db_cons (ds_set 8 (de_meth g.reward hr g.T.cl nfReward (dv 0) (da_cons (dv 1) (da_cons (dv 5) (da_cons (dv 6) (da_cons (dv 7) da_nil)))) ⟨p, t, x.1, x.2.1, x.2.2, rfl, W, ht, m1, m2, m3, rfl⟩) scRet.nd)
      (db_one (ds_par 3 4 (de_add (de_mul (de_mul (dv 8) (de_fld pf_bottom g.T.cl g.T.n4 (dv 0)) (mulR (by omega))) (dv 4) (mulRz ⟨by omega, by omega⟩)) (de_mul (de_fld pf_top g.T.cl g.T.n3 (dv 0)) (dv 3) (mulL (by omega)))) (de_mul (de_fld pf_bottom g.T.cl g.T.n4 (dv 0)) (dv 4) (mulL (by omega))) scRet.nd))) (.same (.same (.same (.same (.same (.un (.un (.un (.un .nil)))))))))
  · rw [Nat.sub_zero, List.drop_length]
    rfl
  · rw [List.length_reverse, List.length_map, Nat.sub_self, List.drop_zero]
    have hb := rv_bd W t L
    have e1 : (10 : Int) ^ L.length ≤ 10 ^ 6 := by
      have : (10 : Nat) ^ L.length ≤ 10 ^ 6 := Nat.pow_le_pow_right (by decide) hL
      exact_mod_cast this
    have e2 : (rv p t L).2 ≤ 1000000 := Int.le_trans hb.2.1 e1
    exact db_one (ds_ret (de_call gL hr (da_cons (dv 3) (da_cons (dv 4) da_nil)) ⟨_, _, rfl, hb.1, Nat.lt_of_lt_of_le (m := 2 ^ 30) (by omega) (Nat.pow_le_pow_right (by decide) (by decide)), rfl⟩))
/-! ### episodes -/
def epD (e : Kp390.Episode) : D := .tup [.int (e.first : Nat), stD e.first e.steps, frD e.return0, frD e.return1]
structure EpOk (p : Kp389.Process) (e : Kp390.Episode) : Prop where
  ok : StOk p e.first e.steps
  len : e.steps.length ≤ 6
  q0 : QB 50 e.return0
  q1 : QB 50 e.return1
def R_ep : List D → D → Prop := fun ds d => ∃ p t s rs, ds = [.proc p, .int (t : Nat), .int (s : Nat), natD rs] ∧ PWf p ∧ t ≤ 1 ∧ s < p.stateCount ∧ (∀ x ∈ rs, x ≤ 999) ∧ rs.length ≤ 6 ∧ d = epD (Kp390.episodeOf p t s rs)
theorem ep_eq {p : Kp389.Process} (W : PWf p) (t s : Nat) (rs : List Nat) : Kp390.episodeOf p t s rs = ⟨s, Kp390.simulate p (optP p t) s rs, Kp390.discountedReturn p 0 s (Kp390.simulate p (optP p t) s rs), Kp390.discountedReturn p 1 s (Kp390.simulate p (optP p t) s rs)⟩ := by
  unfold Kp390.episodeOf
  rw [optP_eq W]
theorem ep_ok {p : Kp389.Process} (W : PWf p) {t s : Nat} {rs : List Nat} (hs : s < p.stateCount) (h9 : ∀ x ∈ rs, x ≤ 999) (h6 : rs.length ≤ 6) : EpOk p (Kp390.episodeOf p t s rs) := by
  rw [ep_eq W]
  have hl : (Kp390.simulate p (optP p t) s rs).length ≤ 6 := by rw [sim_len]; exact h6
  exact ⟨sim_ok W (optP_pol W t) hs h9, hl, ret_QB W 0 s hl, ret_QB W 1 s hl⟩
abbrev sEp : Stmt := top 37
abbrev nEp : List Str := ["process", "table", "state", "randoms", "steps"]
theorem scEp : FnScope nEp ["process", "table", "state", "randoms"] (defScope sEp) := ⟨rfl, rfl, rfl, by decide +kernel, rfl, by decide +kernel, by decide +kernel⟩
theorem ok_ep (G : Fun K "episode_of" "episode_of" sEp f fd) (gS : Cal P w K mg base 13 "steps_from" (spD K C R_steps)) (gR : Cal P w K mg base 3 "return_by" (spD K C R_ret)) : FnOk P w K mg base CX0 14 f fd ["process", "table", "state", "randoms"] (spD K C R_ep) := by
  refine pure_def G scEp (fun ds d ⟨_, _, _, _, h, _⟩ => by rw [h]; rfl) fun cdv A outer s' H E hr ds d h => ?_
  obtain ⟨p, t, s, rs, rfl, W, ht, hs, h9, h6, rfl⟩ := h
  have hr3 : Room 3 _ := hr.mono (by decide)
  have ok := ep_ok W (t := t) hs h9 h6
  rw [ep_eq W] at ok ⊢
  have h1 := ok.ok
  have h2 := ok.len
  refine db_cons (ds_set 4 (de_call gS hr (da_cons (dv 0) (da_cons (dv 1) (da_cons (dv 2) (da_cons (dv 3) da_nil)))) ⟨p, t, s, rs, rfl, W, ht, hs, h9, h6, rfl⟩) scEp.nd) ?_
  exact db_one (ds_ret (de_tup (da_cons (dv 2) (da_cons (dv 4) (da_cons (de_call gR hr3 (da_cons (dv 0) (da_cons de_int (da_cons (dv 4) da_nil))) ⟨p, 0, s, _, rfl, W, by decide, h1, h2, rfl⟩) (da_cons (de_call gR hr3 (da_cons (dv 0) (da_cons de_int (da_cons (dv 4) da_nil))) ⟨p, 1, s, _, rfl, W, by decide, h1, h2, rfl⟩) da_nil))))))
end
end Sw
namespace Sw
open PySem PySem.Spec PyProof.Rows L2
theorem trs_snd : ∀ (s : Nat) (l : List (Nat × Nat)), (trs s l).map (·.2) = l
  | _, [] => rfl
  | _, (a, q) :: r => by simp [trs, trs_snd q r]
theorem two_of {q r : Rat} {a b : Nat} (h : QB a q) (g : QB b r) (ha : a ≤ 3000) (hb : b ≤ 3000) : Two q.num q.den r.num r.den := by
  have h' := h.mono ha
  have g' := g.mono hb
  exact ⟨den_posI q, den_posI r, h'.n, by rw [Int.natAbs_natCast]; exact h'.d, g'.n, by rw [Int.natAbs_natCast]; exact g'.d⟩
section
variable {C : Addr} {X : Cx} {F : Fm} {δ : List SD} {a b : Expr} {pos : Pos}
theorem de_plus {q r : Rat} {k : Nat} {p : Pos} {m n : Nat} (G : Cal X.prog X.w X.K X.mg X.base k "plus" (spD X.K C R_plus)) (hr : Room k X.A) (ha : DE C X a F δ (frD q)) (hb : DE C X b F δ (frD r)) (hq : QB m q) (hr' : QB n r) (hm : m ≤ 3000) (hn : n ≤ 3000) (hg : Gl X "plus" := by rfl)
    (he : starEach (a :: [b]) X.env = (false, eval a X.env) :: starEach [b] X.env := by rfl) (he2 : starEach (b :: []) X.env = (false, eval b X.env) :: starEach [] X.env := by rfl) (hpl : (backTo pos (starEach [b] X.env)).any (·.1) = false := by rfl) : DE C X (.Call (.Name "plus" p) [a, b] [] pos) F δ (frD (q + r)) :=
  de_call G hr (da_cons ha (da_cons hb da_nil he2) he) ⟨_, _, _, _, rfl, two_of hq hr' hm hn, by rw [mkQ_self, mkQ_self]⟩ hg (by decide) he hpl
theorem de_minus {q r : Rat} {k : Nat} {p : Pos} {m n : Nat} (G : Cal X.prog X.w X.K X.mg X.base k "minus" (spD X.K C R_minus)) (hr : Room k X.A) (ha : DE C X a F δ (frD q)) (hb : DE C X b F δ (frD r)) (hq : QB m q) (hr' : QB n r) (hm : m ≤ 3000) (hn : n ≤ 3000) (hg : Gl X "minus" := by rfl)
    (he : starEach (a :: [b]) X.env = (false, eval a X.env) :: starEach [b] X.env := by rfl) (he2 : starEach (b :: []) X.env = (false, eval b X.env) :: starEach [] X.env := by rfl) (hpl : (backTo pos (starEach [b] X.env)).any (·.1) = false := by rfl) : DE C X (.Call (.Name "minus" p) [a, b] [] pos) F δ (frD (q - r)) :=
  de_call G hr (da_cons ha (da_cons hb da_nil he2) he) ⟨_, _, _, _, rfl, two_of hq hr' hm hn, by rw [mkQ_self, mkQ_self]⟩ hg (by decide) he hpl
theorem de_times {q r : Rat} {k : Nat} {p : Pos} {m n : Nat} (G : Cal X.prog X.w X.K X.mg X.base k "times" (spD X.K C R_times)) (hr : Room k X.A) (ha : DE C X a F δ (frD q)) (hb : DE C X b F δ (frD r)) (hq : QB m q) (hr' : QB n r) (hm : m ≤ 3000) (hn : n ≤ 3000) (hg : Gl X "times" := by rfl)
    (he : starEach (a :: [b]) X.env = (false, eval a X.env) :: starEach [b] X.env := by rfl) (he2 : starEach (b :: []) X.env = (false, eval b X.env) :: starEach [] X.env := by rfl) (hpl : (backTo pos (starEach [b] X.env)).any (·.1) = false := by rfl) : DE C X (.Call (.Name "times" p) [a, b] [] pos) F δ (frD (q * r)) :=
  de_call G hr (da_cons ha (da_cons hb da_nil he2) he) ⟨_, _, _, _, rfl, two_of hq hr' hm hn, by rw [mkQ_self, mkQ_self]⟩ hg (by decide) he hpl
end
/-! triples compared with the empty list -/
theorem trip_facts : ∀ l : List (Nat × Nat × Nat), plainDs (l.map tripD) = true ∧ PyData.canLayAll0 (toPs (l.map tripD)) = true ∧ PyData.depthAll (toPs (l.map tripD)) ≤ 1
  | [] => ⟨rfl, rfl, Nat.zero_le _⟩
  | x :: l => by
    obtain ⟨h1, h2, h3⟩ := trip_facts l
    refine ⟨?_, ?_, ?_⟩
    · simp only [List.map_cons, plainDs, tripD, plainD, h1, Bool.and_self]
    · simp only [List.map_cons, toPs, tripD, toP, PyData.canLayAll0, PyData.canLay0, h2, Bool.and_self]
    · simp only [List.map_cons, toPs, tripD, toP, PyData.depthAll, PyData.depth]
      omega
theorem eqD_trips (l : List (Nat × Nat × Nat)) : EqD (.lst (l.map tripD)) (.lst []) (decide (l = [])) := by
  obtain ⟨h1, h2, h3⟩ := trip_facts l
  refine ⟨by simp only [plainD]; exact h1, rfl, ?_, ?_, ?_⟩
  · simp only [toP]
    unfold SeqAt.shaped
    rw [Bool.and_eq_true]
    refine ⟨by simp only [PyData.canLay0]; exact h2, decide_eq_true ?_⟩
    simp only [PyData.depth]
    omega
  · decide +kernel
  · cases l with
    | nil => rfl
    | cons x l => simp [toP, toPs, PyData.eqv, PyData.eqvAll]
section
variable {P : Program} {w : World} {K : PySem.W.Frag} {mg : Str → Option Value} {base : Heap} {C : Addr} {f : Addr} {fd : FuncData}
def epN (e : Kp390.Episode) : List Int := (e.steps.length : Int) :: (Kp390.fraction e.return0 ++ Kp390.fraction e.return1 ++ e.steps.flatMap fun x => [(x.1 : Int), (x.2 : Int)])
def R_epn : List D → D → Prop := fun ds d => ∃ e, ds = [epD e] ∧ e.steps.length ≤ 6 ∧ d = intD (epN e)
abbrev sEpn : Stmt := top 38
abbrev nEpn : List Str := ["episode", "first", "steps", "one", "other", "found", "state", "action", "later"]
theorem scEpn : FnScope nEpn ["episode"] (defScope sEpn) := ⟨rfl, rfl, rfl, by decide +kernel, rfl, by decide +kernel, by decide +kernel⟩
theorem ok_epn (G : Fun K "episode_numbers" "episode_numbers" sEpn f fd) (gN : Cal P w K mg base 1 "numbers_of" (spD K C R_nums)) (nL : MgN mg "len") : FnOk P w K mg base CX0 2 f fd ["episode"] (spD K C R_epn) := by
  refine pure_def G scEpn (fun ds d ⟨_, h, _⟩ => by rw [h]; rfl) fun cdv A outer s' H E hr ds d h => ?_
  obtain ⟨e, rfl, h6, rfl⟩ := h
  obtain ⟨fst, st, q0, q1⟩ := e
  have h6' : st.length ≤ 6 := h6
  let hd : List Int := (st.length : Int) :: (frN q0 ++ frN q1)
  have hL := trs_len fst st
  have hS := trs_snd fst st
  have eL : (trs fst st).flatMap (fun x => [(x.2.1 : Int), (x.2.2 : Int)]) = st.flatMap fun x => [(x.1 : Int), (x.2 : Int)] := by
    conv => rhs; rw [← hS]
    rw [List.flatMap_map]
  refine db_cons (ds_asg (dv 0) (dg_tup (dgs_cons (dg_name 1 scEpn.nd) (dgs_cons (dg_name 2 scEpn.nd) (dgs_cons (dg_name 3 scEpn.nd) (dgs_cons (dg_name 4 scEpn.nd) dgs_nil)))))) ?_
  refine db_cons (ds_setN 5 (ds := ((st.length : Int) :: (frN q0 ++ frN q1)).map D.int) (dn_is (dn_cat (de_of (dn_lst (da_cons (de_len nL (dv 2)) da_nil))) (de_call gN hr (da_cons (de_of (dn_lst (da_cons (dv 3) (da_cons (dv 4) da_nil)))) da_nil) ⟨[q0, q1], rfl, (by show 2 ≤ 1000; decide), rfl⟩) (sz_le (m := 100) ?_ rfl)) ?_) scEpn.nd) ?_
  · show 1 + (([q0, q1].flatMap frN).map D.int).length ≤ 100
    simp [frN]
  · show D.int ((((trs fst st).map tripD).length : Nat) : Int) :: (([q0, q1].flatMap frN).map D.int) = _
    rw [List.length_map, hL]
    simp [frN]
  refine db_cons (ds_from (ds_for (ds := (trs fst st).map tripD) (fun _ => F0)
    (fun k => [.dat (epD ⟨fst, st, q0, q1⟩), .dat (.int fst), .dat (stD fst st), .dat (frD q0), .dat (frD q1), .own (((st.length : Int) :: (frN q0 ++ frN q1) ++ ((trs fst st).take k).flatMap fun x => [(x.2.1 : Int), (x.2.2 : Int)]).map D.int), .un, .un, .un])
    (fun k => [.dat (epD ⟨fst, st, q0, q1⟩), .dat (.int fst), .dat (stD fst st), .dat (frD q0), .dat (frD q1), .own (((st.length : Int) :: (frN q0 ++ frN q1) ++ ((trs fst st).take k).flatMap fun x => [(x.2.1 : Int), (x.2.2 : Int)]).map D.int), .dat (.int ((trs fst st).getD k (0, 0, 0)).1), .dat (.int ((trs fst st).getD k (0, 0, 0)).2.1), .dat (.int ((trs fst st).getD k (0, 0, 0)).2.2)])
    (fun k => [.dat (epD ⟨fst, st, q0, q1⟩), .dat (.int fst), .dat (stD fst st), .dat (frD q0), .dat (frD q1), .own (((st.length : Int) :: (frN q0 ++ frN q1) ++ ((trs fst st).take (k + 1)).flatMap fun x => [(x.2.1 : Int), (x.2.2 : Int)]).map D.int), .un, .un, .un])
    (di_list (dv 2)) (fun k d hd => ?_) (fun k d hd => ?_) (fun k hk => .same (.same (.same (.same (.same (.same (.un (.un (.un .nil))))))))) PassesOwn.never) ?_) ?_
  · obtain ⟨_, rfl, _⟩ := map_get (0, 0, 0) hd
    exact dg_tup (dgs_cons (dg_name 6 scEpn.nd) (dgs_cons (dg_name 7 scEpn.nd) (dgs_cons (dg_name 8 scEpn.nd) dgs_nil)))
  · obtain ⟨hk, _, hx⟩ := map_get (0, 0, 0) hd
    have l1 : (((st.length : Int) :: (frN q0 ++ frN q1) ++ ((trs fst st).take k).flatMap fun x => [(x.2.1 : Int), (x.2.2 : Int)]).map D.int).length ≤ 17 := by
      rw [List.length_map, List.length_append, flat_len (n := 2) (fun _ => rfl), List.length_take]
      simp [frN]; omega
    have l2 : (((st.length : Int) :: (frN q0 ++ frN q1) ++ ((trs fst st).take k).flatMap fun x => [(x.2.1 : Int), (x.2.2 : Int)]).map D.int ++ [D.int ((((trs fst st).getD k (0, 0, 0)).2.1 : Nat) : Int)]).length ≤ 18 := by
      rw [List.length_append]; exact Nat.succ_le_succ l1
    refine db_forget (db_to (db_cons (ds_append 5 (dv 7) (sz_lt l1 rfl)) (db_one (ds_append 5 (dv 8) (sz_lt l2 rfl)))) rfl) ?_
    have ef : ((trs fst st).take (k + 1)).flatMap (fun x => [(x.2.1 : Int), (x.2.2 : Int)]) = ((trs fst st).take k).flatMap (fun x => [(x.2.1 : Int), (x.2.2 : Int)]) ++ [(((trs fst st).getD k (0, 0, 0)).2.1 : Int), (((trs fst st).getD k (0, 0, 0)).2.2 : Int)] := flat_take hx
    have eq : (((st.length : Int) :: (frN q0 ++ frN q1) ++ ((trs fst st).take (k + 1)).flatMap fun x => [(x.2.1 : Int), (x.2.2 : Int)]).map D.int) = ((((st.length : Int) :: (frN q0 ++ frN q1) ++ ((trs fst st).take k).flatMap fun x => [(x.2.1 : Int), (x.2.2 : Int)]).map D.int) ++ [D.int ((((trs fst st).getD k (0, 0, 0)).2.1 : Nat) : Int)]) ++ [D.int ((((trs fst st).getD k (0, 0, 0)).2.2 : Nat) : Int)] := by
      rw [ef]
      simp
    rw [eq]
    exact .same (.same (.same (.same (.same (.same (.un (.un (.un .nil))))))))
  · rw [List.take_zero]
    simp [List.flatMap_nil]
  · refine db_one (ds_to (ds_retO 5) ?_)
    rw [List.length_map, List.take_length, eL]
    rfl
/-! ### powers of the discount, corrected returns -/
def R_disc : List D → D → Prop := fun ds d => ∃ (p : Kp389.Process) (k : Nat), ds = [.proc p, .int (k : Nat)] ∧ PWf p ∧ k ≤ 6 ∧ d = frD (Kp389.discount p ^ k)
abbrev sDisc : Stmt := top 39
abbrev nDisc : List Str := ["process", "many", "found", "turn"]
theorem scDisc : FnScope nDisc ["process", "many"] (defScope sDisc) := ⟨rfl, rfl, rfl, by decide +kernel, rfl, by decide +kernel, by decide +kernel⟩
theorem ok_disc (G : Fun K "discount_over" "discount_over" sDisc f fd) (g : PG1 P w K mg base C) (gT : Cal P w K mg base 3 "times" (spD K C R_times)) : FnOk P w K mg base CX0 4 f fd ["process", "many"] (spD K C R_disc) := by
  refine pure_def G scDisc (fun ds d ⟨_, _, h, _⟩ => by rw [h]; rfl) fun cdv A outer s' H E hr ds d h => ?_
  obtain ⟨p, m, rfl, W, h6, rfl⟩ := h
  have hg := W.g1
  have hgh := W.gh
  have h10 := W.h10
  refine db_cons (ds_set 2 (d := frD (Kp389.discount p ^ 0)) (de_is (de_tup (da_cons de_int (da_cons de_int da_nil))) (by rw [Rat.pow_zero]; rfl)) scDisc.nd) ?_
  refine db_cons (ds_for (ds := (List.range m).map fun (k : Nat) => D.int (k : Int)) (fun _ => F0)
    (fun k => [.dat (.proc p), .dat (.int m), .dat (frD (Kp389.discount p ^ k)), .un])
    (fun k => [.dat (.proc p), .dat (.int m), .dat (frD (Kp389.discount p ^ k)), .dat (.int k)])
    (fun k => [.dat (.proc p), .dat (.int m), .dat (frD (Kp389.discount p ^ (k + 1))), .dat (.int k)])
    (di_rangeN g.nR (dv 1) (by omega)) (fun k d hd => ?_) (fun k d hd => ?_) (fun k hk => .same (.same (.same (.un .nil)))) PassesOwn.never) ?_
  · obtain ⟨hk, rfl⟩ := range_get hd
    exact dg_name 3 scDisc.nd
  · obtain ⟨hk, rfl⟩ := range_get hd
    have q := (disc_QB W k).mono (f := 3000) (by omega)
    have T : Two (Kp389.discount p ^ k).num (Kp389.discount p ^ k).den (p.discountNum : Int) (p.discountDen : Int) :=
      ⟨den_posI _, by omega, q.n, by rw [Int.natAbs_natCast]; exact q.d, Nat.lt_of_lt_of_le (m := 2 ^ 10) (by omega) (Nat.pow_le_pow_right (by decide) (by decide)), Nat.lt_of_lt_of_le (m := 2 ^ 10) (by omega) (Nat.pow_le_pow_right (by decide) (by decide))⟩
    refine db_one (ds_set 2 (de_call gT hr (da_cons (dv 2) (da_cons (de_tup (da_cons (de_fld pf_top g.T.cl g.T.n3 (dv 0)) (da_cons (de_fld pf_bottom g.T.cl g.T.n4 (dv 0)) da_nil))) da_nil)) ⟨_, _, _, _, rfl, T, ?_⟩) scDisc.nd)
    rw [mkQ_self, Rat.pow_succ]
    rfl
  · refine db_one (ds_to (ds_ret (dv 2)) ?_)
    rw [List.length_map, List.length_range]
def corrQ (p : Kp389.Process) (e : Kp390.Episode) : Rat := e.return1 + (Kp389.potentialsOf p (Kp389.difference p)).getD e.first 0 - Kp389.discount p ^ e.steps.length * (Kp389.potentialsOf p (Kp389.difference p)).getD (endOf e.first e.steps) 0
theorem corr_eq (p : Kp389.Process) (e : Kp390.Episode) : Kp390.correctedReturn p e = if Kp389.areEquivalent p then some (corrQ p e) else none := by
  obtain ⟨s, l, r0, r1⟩ := e
  unfold Kp390.correctedReturn Kp389.potentials corrQ
  rw [lastState_eq]
  split <;> rfl
def R_corr : List D → D → Prop := fun ds d => ∃ p e, ds = [.proc p, epD e] ∧ PWf p ∧ EpOk p e ∧ d = frD (corrQ p e)
abbrev sCorr : Stmt := top 40
abbrev nCorr : List Str := ["process", "episode", "first", "steps", "one", "other", "last", "potentials", "end"]
theorem scCorr : FnScope nCorr ["process", "episode"] (defScope sCorr) := ⟨rfl, rfl, rfl, by decide +kernel, rfl, by decide +kernel, by decide +kernel⟩
theorem pots_len (p : Kp389.Process) (l : List Int) : (Kp389.potentialsOf p l).length = p.stateCount := by simp [Kp389.potentialsOf, Kp389.states]
theorem pot_at {p : Kp389.Process} {s : Nat} (hs : s < p.stateCount) : atI ((Kp389.potentialsOf p (Kp389.difference p)).map frD) (s : Int) = some (frD ((Kp389.potentialsOf p (Kp389.difference p)).getD s 0)) :=
  atI_nat (by rw [List.getElem?_map, List.getD_eq_getElem?_getD, List.getElem?_eq_getElem (by rw [pots_len]; exact hs)]; rfl)
theorem ok_corr (G : Fun K "corrected" "corrected" sCorr f fd) (gP : Cal P w K mg base 3 "potentials_of" (spD K C R_pots)) (gD : Cal P w K mg base 4 "discount_over" (spD K C R_disc)) (gT : Cal P w K mg base 3 "times" (spD K C R_times)) (gA : Cal P w K mg base 3 "plus" (spD K C R_plus)) (gM : Cal P w K mg base 3 "minus" (spD K C R_minus)) (nL : MgN mg "len") :
    FnOk P w K mg base CX0 5 f fd ["process", "episode"] (spD K C R_corr) := by
  refine pure_def G scCorr (fun ds d ⟨_, _, h, _⟩ => by rw [h]; rfl) fun cdv A outer s' H E hr ds d h => ?_
  obtain ⟨p, e, rfl, W, O, rfl⟩ := h
  have hr3 : Room 3 _ := hr.mono (by decide)
  obtain ⟨fst, st, q0, q1⟩ := e
  have h6 : st.length ≤ 6 := O.len
  have ok : StOk p fst st := O.ok
  have hf := ok.first
  have he := ok.last
  have hL := trs_len fst st
  refine db_cons (ds_asg (dv 1) (dg_tup (dgs_cons (dg_name 2 scCorr.nd) (dgs_cons (dg_name 3 scCorr.nd) (dgs_cons (dg_name 4 scCorr.nd) (dgs_cons (dg_name 5 scCorr.nd) dgs_nil)))))) ?_
  refine db_cons (ds_set 6 (d := .int (endOf fst st : Nat)) (de_ife (dt_neD (dv 3) (de_of (dn_lst da_nil)) (eqD_trips (trs fst st)) hr.units) (fun hne => ?_) (fun hn => ?_)) scCorr.nd) ?_
  · have hne' : st ≠ [] := fun z => by subst z; simp [trs] at hne
    obtain ⟨x, y, hl⟩ := trs_last fst st hne'
    have hsp : (trs fst st).map tripD = (trs fst st).dropLast.map tripD ++ [tripD (x, y, endOf fst st)] := by
      obtain ⟨ys, hy⟩ := List.getLast?_eq_some_iff.mp hl
      rw [hy]
      simp
    exact de_ixT (de_ixL (dv 3) (de_neg de_int) (by rw [hsp]; exact atI_last _ _)) de_int
  · have hn' : trs fst st = [] := by simpa using hn
    have : st = [] := by
      have := hL
      rw [hn'] at this
      exact List.length_eq_zero_iff.mp this.symm
    subst this
    exact dv 2
  refine db_cons (ds_set 7 (de_call gP hr3 (da_cons (dv 0) da_nil) ⟨p, rfl, W, rfl⟩) scCorr.nd) ?_
  have qd := disc_QB W st.length
  have qe := pot_QB W he
  have qf := pot_QB W hf
  refine db_cons (ds_set 8 (de_times gT hr3 (de_call gD hr (da_cons (dv 0) (da_cons (de_is (de_len nL (dv 3)) (by rw [List.length_map, hL])) da_nil)) ⟨p, st.length, rfl, W, h6, rfl⟩) (de_ixL (dv 7) (dv 6) (pot_at he)) qd qe (by omega) (by omega)) scCorr.nd) ?_
  refine db_one (ds_ret (de_minus gM hr3 (de_plus gA hr3 (dv 5) (de_ixL (dv 7) (dv 2) (pot_at hf)) O.q1 qf (by omega) (by omega)) (dv 8) (O.q1.add qf) (qd.mul qe) (by omega) (by omega)))
end
end Sw
namespace Sw
open PySem PySem.Spec PyProof.Rows L2
/-! ### the largest regret -/
theorem larger_fold : ∀ (l : List Rat) (x : Rat), x ≤ l.foldl Kp390.larger x ∧ (∀ y ∈ l, y ≤ l.foldl Kp390.larger x) ∧ (l.foldl Kp390.larger x = x ∨ l.foldl Kp390.larger x ∈ l)
  | [], x => ⟨Rat.le_refl, fun _ h => (nomatch h), .inl rfl⟩
  | a :: l, x => by
    obtain ⟨h1, h2, h3⟩ := larger_fold l (Kp390.larger x a)
    have e : (a :: l).foldl Kp390.larger x = l.foldl Kp390.larger (Kp390.larger x a) := rfl
    rw [e]
    generalize l.foldl Kp390.larger (Kp390.larger x a) = m at *
    unfold Kp390.larger at h1 h3
    by_cases c : x < a
    · rw [if_pos c] at h1 h3
      refine ⟨by grind, fun y hy => ?_, ?_⟩
      · rcases List.mem_cons.mp hy with rfl | hy
        · exact h1
        · exact h2 y hy
      · rcases h3 with h3 | h3
        · exact .inr (by rw [h3]; exact List.mem_cons_self)
        · exact .inr (List.mem_cons_of_mem _ h3)
    · rw [if_neg c] at h1 h3
      refine ⟨h1, fun y hy => ?_, ?_⟩
      · rcases List.mem_cons.mp hy with rfl | hy
        · grind
        · exact h2 y hy
      · rcases h3 with h3 | h3
        · exact .inl h3
        · exact .inr (List.mem_cons_of_mem _ h3)
theorem regrets_nonneg {p : Kp389.Process} (W : PWf p) : ∀ q ∈ Kp389.regrets p, 0 ≤ q := by
  intro q hq
  rw [regrets_eq W] at hq
  obtain ⟨s, hs, rfl⟩ := List.mem_map.mp hq
  have := bestP_opt W 1 (optP_pol W 0) s (List.mem_range.mp hs)
  grind
theorem regrets_len {p : Kp389.Process} (W : PWf p) : (Kp389.regrets p).length = p.stateCount := by rw [regrets_eq W]; simp
theorem regrets_QB {p : Kp389.Process} (W : PWf p) : ∀ q ∈ Kp389.regrets p, QB 300 q := by
  intro q hq
  rw [regrets_eq W] at hq
  obtain ⟨s, hs, rfl⟩ := List.mem_map.mp hq
  have vq : ∀ {π : List Nat}, VPol p π → QB 110 (valQ p 1 π s) := fun V => mkQ_QB (bot_pos W V) (top_abs W 1 V s) (Nat.lt_of_lt_of_le (bot_abs W V) (Nat.pow_le_pow_right (by decide) (by decide)))
  exact ((vq (bestP_pol W 1)).sub (vq (optP_pol W 0))).mono (by decide)
theorem largest_mem {p : Kp389.Process} (W : PWf p) : Kp390.largestRegret p ∈ Kp389.regrets p ∧ ∀ y ∈ Kp389.regrets p, y ≤ Kp390.largestRegret p := by
  obtain ⟨h1, h2, h3⟩ := larger_fold (Kp389.regrets p) 0
  refine ⟨?_, h2⟩
  rcases h3 with h3 | h3
  · have hn2 := W.n2
    have hl := regrets_len W
    have hm : (Kp389.regrets p)[0]'(by omega) ∈ Kp389.regrets p := List.getElem_mem _
    have a1 := regrets_nonneg W _ hm
    have a2 := h2 _ hm
    have : (Kp389.regrets p)[0]'(by omega) = Kp390.largestRegret p := by
      unfold Kp390.largestRegret
      rw [h3] at a2 ⊢
      grind
    rw [← this]
    exact hm
  · exact h3
section
variable {P : Program} {w : World} {K : PySem.W.Frag} {mg : Str → Option Value} {base : Heap} {C : Addr} {f : Addr} {fd : FuncData}
/-! ### guarantees -/
def R_isg : List D → D → Prop := fun ds d => ∃ k v : Nat, ds = [.int k, .int v] ∧ d = .bl (Kp390.validGuarantee ⟨k, v⟩)
abbrev sIsg : Stmt := top 46
theorem scIsg : FnScope ["kind", "value"] ["kind", "value"] (defScope sIsg) := ⟨rfl, rfl, rfl, by decide +kernel, rfl, by decide +kernel, by decide +kernel⟩
theorem ok_isg (G : Fun K "is_guarantee" "is_guarantee" sIsg f fd) (nK : MgI mg "LAST_KIND" 2) (nV : MgI mg "MOST_VALUE" 100000) : FnOk P w K mg base CX0 1 f fd ["kind", "value"] (spD K C R_isg) := by
  refine pure_def G scIsg (fun ds d ⟨_, _, h, _⟩ => by rw [h]; rfl) fun cdv A outer s' H E hr ds d h => ?_
  obtain ⟨k, v, rfl, rfl⟩ := h
  refine db_if (dw_t (dw_or (dt_gt (dv 0) (dg nK)) fun _ => dw_or1 (dt_gt (dv 1) (dg nV)))) (fun h => ⟨F0, _, rfl, db_one (ds_ret (de_is de_bl ?_))⟩) (fun h => db_one (ds_ret (de_is (de_or (de_eq (dv 0) (dg nK)) fun _ => de_one (de_eq (dv 1) de_int)) ?_)))
  · simp only [Bool.or_eq_true, decide_eq_true_eq] at h
    unfold Kp390.validGuarantee
    simp only [D.bl.injEq]
    rcases h with h | h
    · rw [show decide (k ≤ 2) = false from decide_eq_false (by omega)]; rfl
    · rw [show decide (v ≤ 100000) = false from decide_eq_false (by omega), Bool.and_false]; rfl
  · simp only [Bool.or_eq_false_iff, decide_eq_false_iff_not] at h
    unfold Kp390.validGuarantee
    simp only [D.bl.injEq]
    rw [show decide (k ≤ 2) = true from decide_eq_true (by omega), show decide (v ≤ 100000) = true from decide_eq_true (by omega)]
    have e1 : decide ((k : Int) = 2) = (k == 2) := by
      by_cases c : k = 2
      · subst c; rfl
      · rw [decide_eq_false (by omega)]; simp [c]
    have e2 : decide ((v : Int) = 0) = (v == 0) := by
      by_cases c : v = 0
      · subst c; rfl
      · rw [decide_eq_false (by omega)]; simp [c]
    rw [e1, e2]
    rfl
def R_same : List D → D → Prop := fun ds d => ∃ p, ds = [.proc p] ∧ PWf p ∧ d = .bl (Kp389.sameOptimalActions p)
abbrev sSame : Stmt := top 47
theorem scSame : FnScope ["process"] ["process"] (defScope sSame) := ⟨rfl, rfl, rfl, by decide +kernel, rfl, by decide +kernel, by decide +kernel⟩
theorem natRows_inj {l k : List (List Nat)} : ((l.map fun r => r.map fun (x : Nat) => (x : Int)) = k.map fun r => r.map fun (x : Nat) => (x : Int)) ↔ l = k := by
  constructor
  · intro h
    have : Function.Injective (fun (r : List Nat) => r.map fun (x : Nat) => (x : Int)) := fun a b e => natL_inj.mp e
    exact (List.map_inj_right this).mp h
  · intro h; rw [h]
theorem ok_same (G : Fun K "have_same_actions" "have_same_actions" sSame f fd) (gA : Cal P w K mg base 11 "optimal_actions" (spD K C R_opta)) : FnOk P w K mg base CX0 12 f fd ["process"] (spD K C R_same) := by
  refine pure_def G scSame (fun ds d ⟨_, h, _⟩ => by rw [h]; rfl) fun cdv A outer s' H E hr ds d h => ?_
  obtain ⟨p, rfl, W, rfl⟩ := h
  refine db_one (ds_ret (de_is (de_eqD (de_call gA hr (da_cons (dv 0) (da_cons de_int da_nil)) ⟨p, 0, rfl, W, by decide, rfl⟩) (de_call gA hr (da_cons (dv 0) (da_cons de_int da_nil)) ⟨p, 1, rfl, W, by decide, rfl⟩) (eqD_rows _ _) hr.units) ?_))
  unfold Kp389.sameOptimalActions
  simp only [D.bl.injEq]
  by_cases c : Kp389.allOptimalActions p 0 = Kp389.allOptimalActions p 1
  · rw [decide_eq_true (natRows_inj.mpr c)]; simp [c]
  · rw [decide_eq_false (fun z => c (natRows_inj.mp z))]; simp [c]
def R_least : List D → D → Prop := fun ds d => ∃ p, ds = [.proc p] ∧ PWf p ∧ d = .int (Kp390.largestRegret p).ceil
abbrev sLeast : Stmt := top 48
theorem scLeast : FnScope ["process", "regret"] ["process"] (defScope sLeast) := ⟨rfl, rfl, rfl, by decide +kernel, rfl, by decide +kernel, by decide +kernel⟩
theorem ceil_mono {a b : Rat} (h : a ≤ b) : a.ceil ≤ b.ceil := by
  rw [Rat.ceil_le_iff]
  exact Rat.le_trans h Rat.le_ceil
theorem ok_least (G : Fun K "least_bound" "least_bound" sLeast f fd) (gR : Cal P w K mg base 13 "regrets" (spD K C R_regr)) (gU : Cal P w K mg base 1 "rounded_up" (spD K C R_rup)) (nM : MgN mg "max") : FnOk P w K mg base CX0 14 f fd ["process"] (spD K C R_least) := by
  refine pure_def G scLeast (fun ds d ⟨_, h, _⟩ => by rw [h]; rfl) fun cdv A outer s' H E hr ds d h => ?_
  obtain ⟨p, rfl, W, rfl⟩ := h
  have hr1 : Room 1 _ := hr.mono (by decide)
  have hn4 := W.n4
  have hl := regrets_len W
  obtain ⟨m1, m2⟩ := largest_mem W
  refine db_one (ds_ret (de_max (ns := (Kp389.regrets p).map Rat.ceil) nM (de_of (dn_lc (n := "regret") (i := 1) (di_list (de_call gR hr (da_cons (dv 0) da_nil) ⟨p, rfl, W, rfl⟩)) (blkOk_by (N := ["process", "regret"]) (sc := defScope sLeast) (by decide +kernel)) scLeast.nd (fun _ _ _ _ _ => pg_name (i := 1) scLeast.nd rfl (Or.inl rfl)) ?_ ?_ (fun i d e hd he s H C' cl fp => ?_))) (List.mem_map_of_mem m1) (fun y hy => ?_)))
  · simp
  · exact sz_le (m := 4) (by rw [List.length_map]; omega) rfl
  · obtain ⟨_, rfl, hx⟩ := map_get 0 hd
    rw [List.map_map] at he
    obtain ⟨_, rfl, _⟩ := map_get 0 he
    have hq := ((regrets_QB W _ (List.mem_of_getElem? hx)).mono (f := 8000) (by decide)).d
    exact de_call gU hr1 (da_cons (dv 1) da_nil) ⟨_, rfl, hq, rfl⟩
  · obtain ⟨q, hq, rfl⟩ := List.mem_map.mp hy
    exact ceil_mono (m2 q hq)
def gD (g : Kp390.Guarantee) : D := .tup [.int (g.kind : Nat), .int (g.value : Nat)]
def R_holds : List D → D → Prop := fun ds d => ∃ p g, ds = [.proc p, gD g] ∧ PWf p ∧ d = .bl (Kp390.holds p g)
abbrev sHolds : Stmt := top 49
theorem scHolds : FnScope ["process", "guarantee", "kind", "value"] ["process", "guarantee"] (defScope sHolds) := ⟨rfl, rfl, rfl, by decide +kernel, rfl, by decide +kernel, by decide +kernel⟩
theorem ok_holds (G : Fun K "holds" "holds" sHolds f fd) (gE : Cal P w K mg base 4 "are_equivalent" (spD K C R_equiv)) (gS : Cal P w K mg base 12 "have_same_actions" (spD K C R_same)) (gL : Cal P w K mg base 14 "least_bound" (spD K C R_least)) (n0 : MgI mg "EQUIVALENT" 0) (n1 : MgI mg "SAME_ACTIONS" 1) : FnOk P w K mg base CX0 15 f fd ["process", "guarantee"] (spD K C R_holds) := by
  refine pure_def G scHolds (fun ds d ⟨_, _, h, _⟩ => by rw [h]; rfl) fun cdv A outer s' H E hr ds d h => ?_
  obtain ⟨p, ⟨k, v⟩, rfl, W, rfl⟩ := h
  have hr4 : Room 4 _ := hr.mono (by decide)
  have hr12 : Room 12 _ := hr.mono (by decide)
  refine db_cons (ds_asg (dv 1) (dg_tup (dgs_cons (dg_name 2 scHolds.nd) (dgs_cons (dg_name 3 scHolds.nd) dgs_nil)))) ?_
  have hh : Kp390.holds p ⟨k, v⟩ = if k = 0 then Kp389.areEquivalent p else if k = 1 then Kp389.sameOptimalActions p else decide (Kp390.largestRegret p ≤ (v : Rat)) := rfl
  rw [hh]
  refine db_if (dt_eq (dv 2) (dg n0)) (fun h => ⟨F0, _, rfl, ?_⟩) (fun h => ?_)
  · have h' : (k : Int) = 0 := of_decide_eq_true h
    rw [if_pos (show k = 0 by omega)]
    exact db_one (ds_ret (de_call gE hr4 (da_cons (dv 0) da_nil) ⟨p, rfl, W, rfl⟩))
  · have h' : ¬ (k : Int) = 0 := of_decide_eq_false h
    rw [if_neg (show ¬ k = 0 by omega)]
    refine db_one (ds_ret (de_ife (dt_eq (dv 2) (dg n1)) (fun g => ?_) (fun g => ?_)))
    · have g' : (k : Int) = 1 := of_decide_eq_true g
      rw [if_pos (show k = 1 by omega)]
      exact de_call gS hr12 (da_cons (dv 0) da_nil) ⟨p, rfl, W, rfl⟩
    · have g' : ¬ (k : Int) = 1 := of_decide_eq_false g
      rw [if_neg (show ¬ k = 1 by omega)]
      refine de_is (de_le (de_call gL hr (da_cons (dv 0) da_nil) ⟨p, rfl, W, rfl⟩) (dv 3)) ?_
      simp only [D.bl.injEq]
      have : (Kp390.largestRegret p).ceil ≤ (v : Int) ↔ Kp390.largestRegret p ≤ (v : Rat) := Rat.ceil_le_iff
      by_cases c : Kp390.largestRegret p ≤ (v : Rat)
      · rw [decide_eq_true c, decide_eq_true (this.mpr c)]
      · rw [decide_eq_false c, decide_eq_false (fun z => c (this.mp z))]
def R_all : List D → D → Prop := fun ds d => ∃ (p : Kp389.Process) (gs : List Kp390.Guarantee), ds = [.proc p, .lst (gs.map gD)] ∧ PWf p ∧ d = .bl (gs.all (Kp390.holds p))
abbrev sAll : Stmt := top 50
abbrev nAll : List Str := ["process", "guarantees", "guarantee"]
theorem scAll : FnScope nAll ["process", "guarantees"] (defScope sAll) := ⟨rfl, rfl, rfl, by decide +kernel, rfl, by decide +kernel, by decide +kernel⟩
theorem ok_all (G : Fun K "all_hold" "all_hold" sAll f fd) (gH : Cal P w K mg base 15 "holds" (spD K C R_holds)) : FnOk P w K mg base CX0 16 f fd ["process", "guarantees"] (spD K C R_all) := by
  refine pure_def G scAll (fun ds d ⟨_, _, h, _⟩ => by rw [h]; rfl) fun cdv A outer s' H E hr ds d h => ?_
  obtain ⟨p, gs, rfl, W, rfl⟩ := h
  by_cases hall : ∀ k, k < gs.length → Kp390.holds p (gs.getD k ⟨0, 0⟩) = true
  · have e : gs.all (Kp390.holds p) = true := by
      rw [List.all_eq_true]
      intro x hx
      obtain ⟨i, hi, rfl⟩ := List.mem_iff_getElem.mp hx
      have := hall i hi
      rw [List.getD_eq_getElem?_getD, List.getElem?_eq_getElem hi] at this
      exact this
    rw [e]
    refine db_cons (ds_for (ds := gs.map gD) (fun _ => F0) (fun k => [.dat (.proc p), .dat (.lst (gs.map gD)), .un]) (fun k => [.dat (.proc p), .dat (.lst (gs.map gD)), .dat (gD (gs.getD k ⟨0, 0⟩))]) (fun k => [.dat (.proc p), .dat (.lst (gs.map gD)), .dat (gD (gs.getD k ⟨0, 0⟩))])
      (di_list (dv 1)) (fun k d hd => ?_) (fun k d hd => ?_) (fun k hk => .same (.same (.un .nil))) PassesOwn.never) (db_one (ds_ret de_bl))
    · obtain ⟨_, rfl, _⟩ := map_get (⟨0, 0⟩ : Kp390.Guarantee) hd
      exact dg_name 2 scAll.nd
    · obtain ⟨hk, _, _⟩ := map_get (⟨0, 0⟩ : Kp390.Guarantee) hd
      refine db_one (ds_if (dt_not (dt_val (de_call gH hr (da_cons (dv 0) (da_cons (dv 2) da_nil)) ⟨p, _, rfl, W, rfl⟩))) (fun h => ?_) (fun _ => db_nil))
      rw [hall k hk] at h
      cases h
  · obtain ⟨n, hn, hd1, hd2⟩ : ∃ n, n < gs.length ∧ Kp390.holds p (gs.getD n ⟨0, 0⟩) = false ∧ ∀ k, k < n → Kp390.holds p (gs.getD k ⟨0, 0⟩) = true := by
      have : ∃ k, k < gs.length ∧ Kp390.holds p (gs.getD k ⟨0, 0⟩) = false := by
        refine Classical.byContradiction fun z => hall fun k hk => ?_
        cases h : Kp390.holds p (gs.getD k ⟨0, 0⟩) with
        | true => rfl
        | false => exact absurd ⟨k, hk, h⟩ z
      obtain ⟨k, hk, hne⟩ := this
      induction k using Nat.strongRecOn with
      | ind k ih =>
        by_cases z : ∃ i, i < k ∧ Kp390.holds p (gs.getD i ⟨0, 0⟩) = false
        · obtain ⟨i, hi, hne'⟩ := z
          exact ih i hi (by omega) hne'
        · refine ⟨k, hk, hne, fun i hi => ?_⟩
          cases h : Kp390.holds p (gs.getD i ⟨0, 0⟩) with
          | true => rfl
          | false => exact absurd ⟨i, hi, h⟩ z
    have e : gs.all (Kp390.holds p) = false := by
      rw [List.all_eq_false]
      refine ⟨gs.getD n ⟨0, 0⟩, ?_, by rw [hd1]; decide⟩
      rw [List.getD_eq_getElem?_getD, List.getElem?_eq_getElem hn]
      exact List.getElem_mem hn
    rw [e]
    refine db_ret (ds_forR (j := n) (ds := gs.map gD) (fun _ => F0) (fun k => [.dat (.proc p), .dat (.lst (gs.map gD)), .un]) (fun k => [.dat (.proc p), .dat (.lst (gs.map gD)), .dat (gD (gs.getD k ⟨0, 0⟩))]) (fun k => [.dat (.proc p), .dat (.lst (gs.map gD)), .dat (gD (gs.getD k ⟨0, 0⟩))]) (by simpa using hn)
      (di_list (dv 1)) (fun k d hd => ?_) (fun k d hd hk => ?_) (fun e he => ?_) (fun k hk => .same (.same (.un .nil))) PassesOwn.never)
    · obtain ⟨_, rfl, _⟩ := map_get (⟨0, 0⟩ : Kp390.Guarantee) hd
      exact dg_name 2 scAll.nd
    · refine db_one (ds_if (dt_not (dt_val (de_call gH hr (da_cons (dv 0) (da_cons (dv 2) da_nil)) ⟨p, _, rfl, W, rfl⟩))) (fun h => ?_) (fun _ => db_nil))
      rw [hd2 k hk] at h
      cases h
    · refine db_one (ds_if (dt_not (dt_val (de_call gH hr (da_cons (dv 0) (da_cons (dv 2) da_nil)) ⟨p, _, rfl, W, rfl⟩))) (fun _ => db_one (ds_ret de_bl)) (fun h => ?_))
      rw [hd1] at h
      cases h
end
end Sw
namespace Sw
open PySem PySem.Spec PyProof.Rows L2
/-! ### the monitor -/
def mF (pa g e : Addr) : List (Str × V) := [("process", .ref pa), ("guarantees", .ref g), ("episodes", .ref e)]
/-- a monitor's objects aren't known: they may change -/
structure MonAt (K : PySem.W.Frag) (C CM : Addr) (a g e : Addr) (m : Kp390.Monitor) (H A : Hp) : Prop where
  ex : ∃ dx pa xs ys, A a = some (.ins CM dx (mF pa g e)) ∧ A g = some (.lst xs) ∧ A e = some (.lst ys) ∧ ProcAt C H pa m.process ∧ RpAll K C H xs (m.guarantees.map gD) ∧ RpAll K C H ys (m.episodes.map epD)
  ha : H a = none
  hg : H g = none
  he : H e = none
  ag : a ≠ g
  ae : a ≠ e
  ge : g ≠ e
theorem MonAt.nx {K : PySem.W.Frag} {C CM a g e : Addr} {m : Kp390.Monitor} {H A H' A' : Hp} (n : Nx H A H' A') (h : MonAt K C CM a g e m H A) : MonAt K C CM a g e m H' A' := by
  obtain ⟨⟨dx, pa, xs, ys, h1, h2, h3, h4, h5, h6⟩, i1, i2, i3, i4, i5, i6⟩ := h
  exact ⟨⟨dx, pa, xs, ys, n.aa _ _ h1, n.aa _ _ h2, n.aa _ _ h3, proc_mono n.hh h4, rpAll_mono n.hh _ _ h5, rpAll_mono n.hh _ _ h6⟩,
    n.sep _ i1 (by rw [h1]; exact fun z => by cases z), n.sep _ i2 (by rw [h2]; exact fun z => by cases z), n.sep _ i3 (by rw [h3]; exact fun z => by cases z), i4, i5, i6⟩
def MonF (K : PySem.W.Frag) (C CM a g e : Addr) (m : Kp390.Monitor) : Fm := ⟨MonAt K C CM a g e m, MonAt.nx⟩
def Mt3 (a g e : Addr) : Mt := fun b => b = a ∨ b = g ∨ b = e
/-- a monitor that is known -/
def MonK (K : PySem.W.Frag) (C CM : Addr) (a : Addr) (m : Kp390.Monitor) (H : Hp) : Prop :=
  ∃ dx pa g e xs ys, H a = some (.ins CM dx (mF pa g e)) ∧ H g = some (.lst xs) ∧ H e = some (.lst ys) ∧ ProcAt C H pa m.process ∧ RpAll K C H xs (m.guarantees.map gD) ∧ RpAll K C H ys (m.episodes.map epD)
theorem MonK.mono {K : PySem.W.Frag} {C CM a : Addr} {m : Kp390.Monitor} {H H' : Hp} (x : Ex H H') (h : MonK K C CM a m H) : MonK K C CM a m H' := by
  obtain ⟨dx, pa, g, e, xs, ys, h1, h2, h3, h4, h5, h6⟩ := h
  exact ⟨dx, pa, g, e, xs, ys, x _ _ h1, x _ _ h2, x _ _ h3, proc_mono x h4, rpAll_mono x _ _ h5, rpAll_mono x _ _ h6⟩
def KonF (K : PySem.W.Frag) (C CM a : Addr) (m : Kp390.Monitor) : Fm := ⟨fun H _ => MonK K C CM a m H, fun n h => h.mono n.hh⟩
/-- promises of what is done to a monitor, and of what is asked of it -/
def spM (K : PySem.W.Frag) (C CM : Addr) (R : Kp390.Monitor → List D → D → Kp390.Monitor → Prop) : Sp := fun vs A Q _ => ∃ a g e m vs' H ds d m', vs = V.ref a :: vs' ∧ Ex H A ∧ MonAt K C CM a g e m H A ∧ RpAll K C H vs' ds ∧ R m ds d m' ∧
  ∀ v H' A', StA K C (Mt3 a g e) (MonF K C CM a g e m') H A H' A' [] [] → Rp K C H' v d → Q v A'
def spQ (K : PySem.W.Frag) (C CM : Addr) (R : Kp390.Monitor → List D → D → Prop) : Sp := fun vs A Q _ => ∃ a m vs' H ds d, vs = V.ref a :: vs' ∧ Ex H A ∧ MonK K C CM a m H ∧ RpAll K C H vs' ds ∧ R m ds d ∧
  ∀ v H' A', Nx H A H' A' → Rp K C H' v d → Q v A'
/-! the known heap with the monitor in it, and without -/
def addM (H : Hp) (a g e : Addr) (o1 o2 o3 : HO) : Hp := upd (upd (upd H a o1) g o2) e o3
theorem addM_ex {K : PySem.W.Frag} {C CM a g e : Addr} {m : Kp390.Monitor} {H A : Hp} (x : Ex H A) (h : MonAt K C CM a g e m H A) : ∃ H2, Ex H H2 ∧ Ex H2 A ∧ MonK K C CM a m H2 ∧ (∃ xs, H2 g = some (.lst xs) ∧ RpAll K C H2 xs (m.guarantees.map gD)) ∧ (∃ ys, H2 e = some (.lst ys) ∧ RpAll K C H2 ys (m.episodes.map epD)) ∧ (∃ dx fs, H2 a = some (.ins CM dx fs)) ∧ ∀ b, b ≠ a → b ≠ g → b ≠ e → H2 b = H b := by
  obtain ⟨⟨dx, pa, xs, ys, h1, h2, h3, h4, h5, h6⟩, i1, i2, i3, i4, i5, i6⟩ := h
  have e1 : addM H a g e (.ins CM dx (mF pa g e)) (.lst xs) (.lst ys) a = some (.ins CM dx (mF pa g e)) := by unfold addM; rw [upd_ne i5, upd_ne i4, upd_same]
  have e2 : addM H a g e (.ins CM dx (mF pa g e)) (.lst xs) (.lst ys) g = some (.lst xs) := by unfold addM; rw [upd_ne i6, upd_same]
  have e3 : addM H a g e (.ins CM dx (mF pa g e)) (.lst xs) (.lst ys) e = some (.lst ys) := by unfold addM; rw [upd_same]
  have e4 : ∀ b, b ≠ a → b ≠ g → b ≠ e → addM H a g e (.ins CM dx (mF pa g e)) (.lst xs) (.lst ys) b = H b := fun b z1 z2 z3 => by unfold addM; rw [upd_ne z3, upd_ne z2, upd_ne z1]
  have x1 : Ex H (addM H a g e (.ins CM dx (mF pa g e)) (.lst xs) (.lst ys)) := fun b o hb => by
    have z1 : b ≠ a := fun z => by subst z; rw [i1] at hb; cases hb
    have z2 : b ≠ g := fun z => by subst z; rw [i2] at hb; cases hb
    have z3 : b ≠ e := fun z => by subst z; rw [i3] at hb; cases hb
    rw [e4 b z1 z2 z3]; exact hb
  have x2 : Ex (addM H a g e (.ins CM dx (mF pa g e)) (.lst xs) (.lst ys)) A := fun b o hb => by
    by_cases z1 : b = a
    · subst z1; rw [e1] at hb; cases hb; exact h1
    · by_cases z2 : b = g
      · subst z2; rw [e2] at hb; cases hb; exact h2
      · by_cases z3 : b = e
        · subst z3; rw [e3] at hb; cases hb; exact h3
        · rw [e4 b z1 z2 z3] at hb; exact x _ _ hb
  exact ⟨_, x1, x2, ⟨dx, pa, g, e, xs, ys, e1, e2, e3, proc_mono x1 h4, rpAll_mono x1 _ _ h5, rpAll_mono x1 _ _ h6⟩, ⟨xs, e2, rpAll_mono x1 _ _ h5⟩, ⟨ys, e3, rpAll_mono x1 _ _ h6⟩, ⟨dx, _, e1⟩, e4⟩
open Classical in
noncomputable def cutM (H : Hp) (a g e : Addr) : Hp := fun b => if Mt3 a g e b then none else H b
theorem cutM_nx {a g e : Addr} {H H2 A H' A' : Hp} (x : Ex H H2) (ha : H a = none) (hg : H g = none) (he : H e = none) (h4 : ∀ b, b ≠ a → b ≠ g → b ≠ e → H2 b = H b) (n : Nx H2 A H' A') : Nx H A (cutM H' a g e) A' := by
  refine ⟨fun b o hb => ?_, n.aa, fun b o hb => ?_, fun b hb hA => ?_⟩
  · have z : ¬ Mt3 a g e b := fun z => by
      rcases z with z | z | z <;> subst z
      · rw [ha] at hb; cases hb
      · rw [hg] at hb; cases hb
      · rw [he] at hb; cases hb
    unfold cutM
    rw [if_neg z]
    exact n.hh _ _ (x _ _ hb)
  · unfold cutM at hb
    split at hb
    · cases hb
    · exact n.ha _ _ hb
  · unfold cutM
    split
    · rfl
    · rename_i z
      refine n.sep b ?_ hA
      rw [h4 b (fun y => z (.inl y)) (fun y => z (.inr (.inl y))) (fun y => z (.inr (.inr y)))]
      exact hb
/-- what may be told of a known monitor and goes on without knowing it -/
inductive Plain : D → Prop
  | int (i : Int) : Plain (.int i)
  | bl (b : Bool) : Plain (.bl b)
  | lst (n : Int) (ns : List Int) : Plain (intD (n :: ns))
theorem Plain.rp {K : PySem.W.Frag} {C : Addr} {a g e : Addr} {H H' : Hp} {CM dx : Addr} {fs : List (Str × V)} {xs ys : List V} {gs : List Kp390.Guarantee} {es : List Kp390.Episode} {v : V} {d : D} (p : Plain d) (ha : H' a = some (.ins CM dx fs)) (hg : H' g = some (.lst xs)) (he : H' e = some (.lst ys)) (rg : RpAll K C H xs (gs.map gD)) (re : RpAll K C H ys (es.map epD))
    (r : Rp K C H' v d) : Rp K C (cutM H' a g e) v d := by
  cases p with
  | int i => simpa only [Rp] using r
  | bl i => simpa only [Rp] using r
  | lst n ns =>
    simp only [intD, Rp] at r ⊢
    obtain ⟨p, zs, e1, e2, e3⟩ := r
    have ez := rpAll_ints e3
    subst ez
    have z : ¬ Mt3 a g e p := fun z => by
      rcases z with z | z | z <;> subst z
      · rw [ha] at e2; cases e2
      · rw [hg] at e2
        cases e2
        cases gs with
        | nil => simp only [iV, List.map_cons, List.map_nil, RpAll] at rg
        | cons g0 gs =>
          simp only [iV, List.map_cons, RpAll, gD, Rp] at rg
          obtain ⟨⟨b, _, z, _⟩, _⟩ := rg
          cases z
      · rw [he] at e2
        cases e2
        cases es with
        | nil => simp only [iV, List.map_cons, List.map_nil, RpAll] at re
        | cons g0 gs =>
          simp only [iV, List.map_cons, RpAll, epD, Rp] at re
          obtain ⟨⟨b, _, z, _⟩, _⟩ := re
          cases z
    refine ⟨p, _, e1, ?_, rpAll_iV _ _⟩
    unfold cutM
    rw [if_neg z]
    exact e2
/-- the text of the class of a monitor -/
structure MTxt (K : PySem.W.Frag) (CM : Addr) : Prop where
  cl : Cls K CM
  n1 : NoAttr K CM "process"
  n2 : NoAttr K CM "guarantees"
  n3 : NoAttr K CM "episodes"
def NoM (m : Str) : Prop := ((m == ("process" : Str)) || (m == ("guarantees" : Str)) || (m == ("episodes" : Str))) = false
theorem NoM.lookup {m : Str} (h : NoM m) (pa g e : Addr) : (mF pa g e).lookup m = none := by
  unfold NoM at h
  simp only [Bool.or_eq_false_iff] at h
  obtain ⟨⟨h1, h2⟩, h3⟩ := h
  unfold mF
  rw [lk_past h1, lk_past h2, lk_past h3]
  rfl
theorem lk_process (pa g e : Addr) : (mF pa g e).lookup ("process" : Str) = some (V.ref pa) := lk_here
theorem lk_guar (pa g e : Addr) : (mF pa g e).lookup ("guarantees" : Str) = some (V.ref g) := (lk_past (by decide +kernel)).trans lk_here
theorem lk_epis (pa g e : Addr) : (mF pa g e).lookup ("episodes" : Str) = some (V.ref e) := (lk_past (by decide +kernel)).trans ((lk_past (by decide +kernel)).trans lk_here)
/-! ### reading under a known monitor -/
section
variable {C CM : Addr} {X : Cx} {δ : List SD} {a' b c e o : Expr} {es : List Expr} {pos p apos : Pos} {k : Nat} {x m : Str} {a : Addr} {mo : Kp390.Monitor}
theorem de_kproc (T : MTxt X.K CM) (h : DE C X o (KonF X.K C CM a mo) δ (.raw (.ref a))) (hb : attributeBase o "process" X.env (eval o X.env) = eval o X.env := by rfl) : DE C X (.Attribute o "process" pos) (KonF X.K C CM a mo) δ (.proc mo.process) :=
  pe_imp (pe_fld h hb) fun σ A Q ⟨M, A0, H, ea, ff, s, q⟩ => ⟨M, A0, H, ea, ff, s, fun v H' A' n r => by
    simp only [Rp] at r
    obtain ⟨dx, pa, g, e, xs, ys, h1, h2, h3, h4, h5, h6⟩ := (KonF X.K C CM a mo).st n ff
    exact ⟨a, CM, dx, _, _, r, n.ha _ _ h1, T.cl, T.n1, lk_process _ _ _, q _ _ _ n (by simp only [Rp]; exact ⟨pa, rfl, h4⟩)⟩⟩
theorem de_kgs (T : MTxt X.K CM) (h : DE C X o (KonF X.K C CM a mo) δ (.raw (.ref a))) (hb : attributeBase o "guarantees" X.env (eval o X.env) = eval o X.env := by rfl) : DE C X (.Attribute o "guarantees" pos) (KonF X.K C CM a mo) δ (.lst (mo.guarantees.map gD)) :=
  pe_imp (pe_fld h hb) fun σ A Q ⟨M, A0, H, ea, ff, s, q⟩ => ⟨M, A0, H, ea, ff, s, fun v H' A' n r => by
    simp only [Rp] at r
    obtain ⟨dx, pa, g, e, xs, ys, h1, h2, h3, h4, h5, h6⟩ := (KonF X.K C CM a mo).st n ff
    exact ⟨a, CM, dx, _, _, r, n.ha _ _ h1, T.cl, T.n2, lk_guar _ _ _, q _ _ _ n (by simp only [Rp]; exact ⟨g, xs, rfl, h2, h5⟩)⟩⟩
theorem de_kes (T : MTxt X.K CM) (h : DE C X o (KonF X.K C CM a mo) δ (.raw (.ref a))) (hb : attributeBase o "episodes" X.env (eval o X.env) = eval o X.env := by rfl) : DE C X (.Attribute o "episodes" pos) (KonF X.K C CM a mo) δ (.lst (mo.episodes.map epD)) :=
  pe_imp (pe_fld h hb) fun σ A Q ⟨M, A0, H, ea, ff, s, q⟩ => ⟨M, A0, H, ea, ff, s, fun v H' A' n r => by
    simp only [Rp] at r
    obtain ⟨dx, pa, g, e, xs, ys, h1, h2, h3, h4, h5, h6⟩ := (KonF X.K C CM a mo).st n ff
    exact ⟨a, CM, dx, _, _, r, n.ha _ _ h1, T.cl, T.n3, lk_epis _ _ _, q _ _ _ n (by simp only [Rp]; exact ⟨e, ys, rfl, h3, h6⟩)⟩⟩
/-- a question to a known monitor -/
theorem de_kask {R : Kp390.Monitor → List D → D → Prop} {ds : List D} {d : D} {pl : Sem Bool} (G : MetC X.prog X.w X.K X.mg X.base k CM m (spQ X.K C CM R)) (hr : Room k X.A) (T : MTxt X.K CM) (hf : NoM m) (ho : DE C X o (KonF X.K C CM a mo) δ (.raw (.ref a))) (ha : DA C X (e :: es) (KonF X.K C CM a mo) δ ds) (hR : R mo ds d)
    (hst : starEach (e :: es) X.env = (false, eval e X.env) :: starEach es X.env := by rfl) (hpl : (backTo pos (starEach es X.env)).any (·.1) = false := by rfl)
    (ht : eval (.Call (.Attribute o m apos) (e :: es) [] pos) X.env = (do
      let ov ← eval o X.env
      standAt apos.atName
      let (f, first) ← holding [ov] (getMethod ov m pl)
      callWith pos f first (backTo pos (starEach (e :: es) X.env)) (backToKw pos (keywordEach [] X.env))) := by rfl) : DE C X (.Call (.Attribute o m apos) (e :: es) [] pos) (KonF X.K C CM a mo) δ d := by
  obtain ⟨f, fd, ps, G, hm, hb⟩ := G
  exact pe_imp (pe_meth ho T.cl hm G hr hb .nil pass0 ha hst hpl ht) fun σ A Q ⟨M, A0, H, ea, ff, s, q⟩ => ⟨M, A0, H, ea, ff, s, fun v H1 A1 n1 r1 => by
    simp only [Rp] at r1
    have ff1 := (KonF X.K C CM a mo).st n1 ff
    obtain ⟨dx, pa, g, e, xs, ys, h1, h2, h3, h4, h5, h6⟩ := ff1
    exact ⟨a, dx, _, r1, n1.ha _ _ h1, hf.lookup _ _ _, M, A0, H1, n1.ha, ⟨dx, pa, g, e, xs, ys, h1, h2, h3, h4, h5, h6⟩, s.nx n1, fun vs H2 A2 n2 r2 =>
      ⟨a, mo, vs, H2, ds, d, by rw [r1, List.append_nil], n2.ha, MonK.mono n2.hh ⟨dx, pa, g, e, xs, ys, h1, h2, h3, h4, h5, h6⟩, r2, hR, fun y H3 A3 n3 r3 => q _ _ _ ((n1.trans n2).trans n3) r3⟩⟩⟩
end
/-! ### a question by its body -/
section
variable {P : Program} {w : World} {K : PySem.W.Frag} {mg : Str → Option Value} {base : Heap} {C CM : Addr}
theorem ask_def {x qual : Str} {st : Stmt} {f : Addr} {fd : FuncData} {N ps : List Str} {k : Nat} {R : Kp390.Monitor → List D → D → Prop} (G : Fun K x qual st f fd) (S : FnScope N ps (defScope st)) (len : ∀ m ds d, R m ds d → ds.length + 1 = ps.length)
    (hbody : ∀ (cdv : Value) (A : Around) (outer : List Env) (s : Shared) (H : Hp) (E : XK), Room k (A.deeper (envOfC qual (defScope st) s.heap.objs.size f cdv)) →
      ∀ a m ds d, R m ds d → DB C (cxOf CX0 P w K mg base N qual (defScope st) f cdv A outer s H E).nox M0 (defBody st) (KonF K C CM a m) (.dat (.raw (.ref a)) :: (ds.map SD.dat ++ List.replicate (N.length - (ds.length + 1)) .un)) (.rt (KonF K C CM a m) d)) : FnOk P w K mg base CX0 (k + 1) f fd ps (spQ K C CM R) := by
  refine G.ok S (fun vs H Q E h => ?_) (fun cdv A outer s A1 vs Q E hr h => ?_)
  · obtain ⟨a, m, vs', H, ds, d, rfl, _, _, r, hR, _⟩ := h
    rw [List.length_cons, rpAll_len r]
    exact len m ds d hR
  · obtain ⟨a, m, vs', H, ds, d, rfl, ex, mk, r, hR, q⟩ := h
    refine ⟨_, hbody cdv A outer s A1 E hr a m ds d hR, ?_⟩
    refine ⟨H, A1, H, ⟨.refl _, fun b o z _ => z, fun b z => z, ex, fun b z _ => z, mk, ?_⟩, fun v H' A' s' r' => q v H' A' ⟨s'.hh, fun b o z => s'.aa b o z id, s'.ha, s'.sep⟩ r'⟩
    have r2 : RpAll K C H (V.ref a :: vs') (D.raw (.ref a) :: ds) := by simp only [RpAll, Rp]; exact ⟨True.intro, r⟩
    have := slots_start (M := M0) (A := A1) (N.length - (vs'.length + 1)) r2
    unfold L2.start
    rw [rpAll_len r] at this
    rw [List.length_cons, rpAll_len r]
    exact this
/-- a deed by its body -/
theorem deed_def {x qual : Str} {st : Stmt} {f : Addr} {fd : FuncData} {N ps : List Str} {k : Nat} {R : Kp390.Monitor → List D → D → Kp390.Monitor → Prop} (G : Fun K x qual st f fd) (S : FnScope N ps (defScope st)) (len : ∀ m ds d m', R m ds d m' → ds.length + 1 = ps.length)
    (hbody : ∀ (cdv : Value) (A : Around) (outer : List Env) (s : Shared) (H : Hp) (E : XK), Room k (A.deeper (envOfC qual (defScope st) s.heap.objs.size f cdv)) →
      ∀ a g e m ds d m', R m ds d m' → DB C (cxOf CX0 P w K mg base N qual (defScope st) f cdv A outer s H E).nox (Mt3 a g e) (defBody st) (MonF K C CM a g e m) (.dat (.raw (.ref a)) :: (ds.map SD.dat ++ List.replicate (N.length - (ds.length + 1)) .un)) (.rt (MonF K C CM a g e m') d)) : FnOk P w K mg base CX0 (k + 1) f fd ps (spM K C CM R) := by
  refine G.ok S (fun vs H Q E h => ?_) (fun cdv A outer s A1 vs Q E hr h => ?_)
  · obtain ⟨a, g, e, m, vs', H, ds, d, m', rfl, _, _, r, hR, _⟩ := h
    rw [List.length_cons, rpAll_len r]
    exact len m ds d m' hR
  · obtain ⟨a, g, e, m, vs', H, ds, d, m', rfl, ex, mk, r, hR, q⟩ := h
    refine ⟨_, hbody cdv A outer s A1 E hr a g e m ds d m' hR, ?_⟩
    refine ⟨H, A1, H, ⟨.refl _, fun b o z _ => z, fun b z => z, ex, fun b z _ => z, mk, ?_⟩, fun v H' A' s' r' => q v H' A' s' r'⟩
    have r2 : RpAll K C H (V.ref a :: vs') (D.raw (.ref a) :: ds) := by simp only [RpAll, Rp]; exact ⟨True.intro, r⟩
    have := slots_start (M := Mt3 a g e) (A := A1) (N.length - (vs'.length + 1)) r2
    unfold L2.start
    rw [rpAll_len r] at this
    rw [List.length_cons, rpAll_len r]
    exact this
end
end Sw
namespace Sw
open PySem PySem.Spec PyProof.Rows L2
section
variable {K : PySem.W.Frag} {C CM a g e : Addr} {mo m1 : Kp390.Monitor} {M : Mt} {F F' : Fm} {H0 A0 H A H3 A3 : Hp} {σ : L2.St} {δ : List SD}
theorem StA.after (s2 : StA K C M F H0 A0 H A σ δ) (s3 : StA K C M F' H A H3 A3 [] []) : StA K C M F' H0 A0 H3 A3 σ δ := by
  refine ⟨s2.hh.trans s3.hh, fun b o h n => s3.aa b o (s2.aa b o h n) n, fun b h => s3.at0 b (s2.at0 b h), s3.ha, fun b h1 h2 => s3.sep b (s2.sep b h1 h2) (s2.at0 b h2), s3.f, ⟨s2.sl.len, fun i t ht => ?_, s2.sl.apart⟩⟩
  have h := s2.sl.at_ i t ht
  cases t with
  | un => cases (σ[i]?).getD none <;> exact True.intro
  | dat d =>
    cases q : (σ[i]?).getD none with
    | none => rw [q] at h; exact h.elim
    | some v => rw [q] at h; exact rp_mono s3.hh d v h
  | own ds =>
    cases q : (σ[i]?).getD none with
    | none => rw [q] at h; exact h.elim
    | some v =>
      rw [q] at h
      obtain ⟨p, xs, e1, h1, h2, h3, h4, h5⟩ := h
      exact ⟨p, xs, e1, s3.sep p h1 (by rw [h2]; exact fun z => by cases z), s3.aa _ _ h2 h5, rpAll_mono s3.hh ds xs h3, h4, h5⟩
/-- one of the monitor's objects changes -/
theorem StA.mutM {b : Addr} {o : HO} (s : StA K C M F H0 A0 H A σ δ) (hm : M b) (hb : H b = none) (f : F'.P H (upd A b o)) : StA K C M F' H0 A0 H (upd A b o) σ δ := by
  have ne : ∀ p, ¬ M p → p ≠ b := fun p h z => h (by rw [z]; exact hm)
  refine ⟨s.hh, fun p o' h n => by rw [upd_ne (ne p n)]; exact s.aa p o' h n, fun p h => ?_, s.ha.mut hb, s.sep, f, ⟨s.sl.len, fun i t ht => ?_, s.sl.apart⟩⟩
  · by_cases z : p = b
    · subst z; rw [upd_same]; exact fun z => by cases z
    · rw [upd_ne z]; exact s.at0 p h
  · have h := s.sl.at_ i t ht
    cases t with
    | un => cases (σ[i]?).getD none <;> exact True.intro
    | dat d => cases q : (σ[i]?).getD none <;> rw [q] at h <;> exact h
    | own ds =>
      cases q : (σ[i]?).getD none with
      | none => rw [q] at h; exact h.elim
      | some v =>
        rw [q] at h
        obtain ⟨p, xs, e1, h1, h2, h3, h4, h5⟩ := h
        exact ⟨p, xs, e1, h1, by rw [upd_ne (ne p h5)]; exact h2, h3, h4, h5⟩
theorem ask_core {R : Kp390.Monitor → List D → D → Prop} {vs : List V} {ds : List D} {d : D} {Q : VK} {E : XK} (ea : Ex H A) (f : MonAt K C CM a g e mo H A) (r : RpAll K C H vs ds) (hR : R mo ds d) (hp : Plain d) (q : ∀ v H' A', Nx H A H' A' → Rp K C H' v d → Q v A') : spQ K C CM R (V.ref a :: vs) A Q E := by
  obtain ⟨H2, x1, x2, mk, ⟨xs, g1, g2⟩, ⟨ys, e1, e2⟩, ⟨dx, fs, a1⟩, h4⟩ := addM_ex ea f
  exact ⟨a, mo, vs, H2, ds, d, rfl, x2, mk, rpAll_mono x1 _ _ r, hR, fun v H' A' n r' => q v (cutM H' a g e) A' (cutM_nx x1 f.ha f.hg f.he h4 n) (hp.rp (n.hh _ _ a1) (n.hh _ _ g1) (n.hh _ _ e1) g2 e2 r')⟩
theorem deed_core {R : Kp390.Monitor → List D → D → Kp390.Monitor → Prop} {vs : List V} {ds : List D} {d : D} {Q : VK} {E : XK} (s : StA K C (Mt3 a g e) (MonF K C CM a g e mo) H0 A0 H A σ δ) (r : RpAll K C H vs ds) (hR : R mo ds d m1)
    (q : ∀ v H' A', StA K C (Mt3 a g e) (MonF K C CM a g e m1) H0 A0 H' A' σ δ → Rp K C H' v d → Q v A') : spM K C CM R (V.ref a :: vs) A Q E :=
  ⟨a, g, e, mo, vs, H, ds, d, m1, rfl, s.ha, s.f, r, hR, fun v H' A' s' r' => q v H' A' (s.after s') r'⟩
end
section
variable {C CM a g e : Addr} {X : Cx} {F : Fm} {δ : List SD} {b c o ex : Expr} {es : List Expr} {pos p apos : Pos} {k : Nat} {x m : Str} {mo m1 : Kp390.Monitor}
theorem de_mproc (T : MTxt X.K CM) (h : DE C X o (MonF X.K C CM a g e mo) δ (.raw (.ref a))) (hb : attributeBase o "process" X.env (eval o X.env) = eval o X.env := by rfl) : DE C X (.Attribute o "process" pos) (MonF X.K C CM a g e mo) δ (.proc mo.process) :=
  pe_imp (pe_fld h hb) fun σ A Q ⟨M, A0, H, ea, ff, s, q⟩ => ⟨M, A0, H, ea, ff, s, fun v H' A' n r => by
    simp only [Rp] at r
    obtain ⟨dx, pa, xs, ys, h1, h2, h3, h4, h5, h6⟩ := ((MonF X.K C CM a g e mo).st n ff).ex
    exact ⟨a, CM, dx, _, _, r, h1, T.cl, T.n1, lk_process _ _ _, q _ _ _ n (by simp only [Rp]; exact ⟨pa, rfl, h4⟩)⟩⟩
theorem de_mgs (T : MTxt X.K CM) (h : DE C X o (MonF X.K C CM a g e mo) δ (.raw (.ref a))) (hb : attributeBase o "guarantees" X.env (eval o X.env) = eval o X.env := by rfl) : DE C X (.Attribute o "guarantees" pos) (MonF X.K C CM a g e mo) δ (.raw (.ref g)) :=
  pe_imp (pe_fld h hb) fun σ A Q ⟨M, A0, H, ea, ff, s, q⟩ => ⟨M, A0, H, ea, ff, s, fun v H' A' n r => by
    simp only [Rp] at r
    obtain ⟨dx, pa, xs, ys, h1, h2, h3, h4, h5, h6⟩ := ((MonF X.K C CM a g e mo).st n ff).ex
    exact ⟨a, CM, dx, _, _, r, h1, T.cl, T.n2, lk_guar _ _ _, q _ _ _ n (by simp only [Rp])⟩⟩
theorem de_mes (T : MTxt X.K CM) (h : DE C X o (MonF X.K C CM a g e mo) δ (.raw (.ref a))) (hb : attributeBase o "episodes" X.env (eval o X.env) = eval o X.env := by rfl) : DE C X (.Attribute o "episodes" pos) (MonF X.K C CM a g e mo) δ (.raw (.ref e)) :=
  pe_imp (pe_fld h hb) fun σ A Q ⟨M, A0, H, ea, ff, s, q⟩ => ⟨M, A0, H, ea, ff, s, fun v H' A' n r => by
    simp only [Rp] at r
    obtain ⟨dx, pa, xs, ys, h1, h2, h3, h4, h5, h6⟩ := ((MonF X.K C CM a g e mo).st n ff).ex
    exact ⟨a, CM, dx, _, _, r, h1, T.cl, T.n3, lk_epis _ _ _, q _ _ _ n (by simp only [Rp])⟩⟩
/-- a list that the frame tells of -/
def Holds (K : PySem.W.Frag) (C : Addr) (F : Fm) (l : Addr) (ds : List D) : Prop := ∀ H A, F.P H A → H l = none ∧ ∃ xs, A l = some (.lst xs) ∧ RpAll K C H xs ds
theorem holds_g {K : PySem.W.Frag} : Holds K C (MonF K C CM a g e mo) g (mo.guarantees.map gD) := fun H A f => by
  obtain ⟨dx, pa, xs, ys, h1, h2, h3, h4, h5, h6⟩ := f.ex
  exact ⟨f.hg, xs, h2, h5⟩
theorem holds_e {K : PySem.W.Frag} : Holds K C (MonF K C CM a g e mo) e (mo.episodes.map epD) := fun H A f => by
  obtain ⟨dx, pa, xs, ys, h1, h2, h3, h4, h5, h6⟩ := f.ex
  exact ⟨f.he, ys, h3, h6⟩
theorem de_ixH {l : Addr} {ds : List D} {k : Int} {d : D} (hh : Holds X.K C F l ds) (ha : DE C X b F δ (.raw (.ref l))) (hb : DE C X c F δ (.int k)) (he : atI ds k = some d) (hs : PlainIx c := by intro _ _; rfl) : DE C X (.Subscript b c pos) F δ d :=
  pe_imp (pe_ix ix_list ha hb hs) fun σ A Q ⟨M, A0, H, ea, f, s, q⟩ => seq2 ea f s fun x y H2 A2 n r1 r2 => by
    simp only [Rp] at r1 r2
    obtain ⟨_, xs, e2, e3⟩ := hh _ _ (F.st n f)
    obtain ⟨v, e4, e5⟩ := atI_v e3 he
    exact ⟨l, xs, k, v, r1, r2, SqL.of e2, e4, q _ _ _ n e5⟩
/-- a question, from where a monitor may change -/
theorem de_ask {R : Kp390.Monitor → List D → D → Prop} {ds : List D} {d : D} {pl : Sem Bool} (G : MetC X.prog X.w X.K X.mg X.base k CM m (spQ X.K C CM R)) (hr : Room k X.A) (T : MTxt X.K CM) (hf : NoM m) (ho : DE C X o (MonF X.K C CM a g e mo) δ (.raw (.ref a))) (ha : DA C X (ex :: es) (MonF X.K C CM a g e mo) δ ds) (hR : R mo ds d) (hp : Plain d)
    (hst : starEach (ex :: es) X.env = (false, eval ex X.env) :: starEach es X.env := by rfl) (hpl : (backTo pos (starEach es X.env)).any (·.1) = false := by rfl)
    (ht : eval (.Call (.Attribute o m apos) (ex :: es) [] pos) X.env = (do
      let ov ← eval o X.env
      standAt apos.atName
      let (f, first) ← holding [ov] (getMethod ov m pl)
      callWith pos f first (backTo pos (starEach (ex :: es) X.env)) (backToKw pos (keywordEach [] X.env))) := by rfl) : DE C X (.Call (.Attribute o m apos) (ex :: es) [] pos) (MonF X.K C CM a g e mo) δ d := by
  obtain ⟨f, fd, ps, G, hm, hb⟩ := G
  exact pe_imp (pe_meth ho T.cl hm G hr hb .nil pass0 ha hst hpl ht) fun σ A Q ⟨M, A0, H, ea, ff, s, q⟩ => ⟨M, A0, H, ea, ff, s, fun v H1 A1 n1 r1 => by
    simp only [Rp] at r1
    have ff1 := (MonF X.K C CM a g e mo).st n1 ff
    obtain ⟨dx, pa, xs, ys, h1, h2, h3, h4, h5, h6⟩ := ff1.ex
    subst r1
    exact ⟨a, dx, _, rfl, h1, hf.lookup _ _ _, M, A0, H1, n1.ha, ff1, s.nx n1, fun vs H2 A2 n2 r2 => by
      show spQ X.K C CM R (V.ref a :: (vs ++ [])) A2 Q _
      rw [List.append_nil]
      exact ask_core n2.ha (ff1.nx n2) r2 hR hp fun y H3 A3 n3 r3 => q _ _ _ ((n1.trans n2).trans n3) r3⟩⟩
theorem de_ask0 {R : Kp390.Monitor → List D → D → Prop} {d : D} {pl : Sem Bool} (G : MetC X.prog X.w X.K X.mg X.base k CM m (spQ X.K C CM R)) (hr : Room k X.A) (T : MTxt X.K CM) (hf : NoM m) (ho : DE C X o (MonF X.K C CM a g e mo) δ (.raw (.ref a))) (hR : R mo [] d) (hp : Plain d)
    (ht : eval (.Call (.Attribute o m apos) [] [] pos) X.env = (do
      let ov ← eval o X.env
      standAt apos.atName
      let (f, first) ← holding [ov] (getMethod ov m pl)
      callWith pos f first (backTo pos (starEach [] X.env)) (backToKw pos (keywordEach [] X.env))) := by rfl) : DE C X (.Call (.Attribute o m apos) [] [] pos) (MonF X.K C CM a g e mo) δ d := by
  obtain ⟨f, fd, ps, G, hm, hb⟩ := G
  exact pe_imp (pe_meth0 ho T.cl hm G hr hb .nil pass0 ht) fun σ A Q ⟨M, A0, H, ea, ff, s, q⟩ => ⟨M, A0, H, ea, ff, s, fun v H1 A1 n1 r1 => by
    simp only [Rp] at r1
    have ff1 := (MonF X.K C CM a g e mo).st n1 ff
    obtain ⟨dx, pa, xs, ys, h1, h2, h3, h4, h5, h6⟩ := ff1.ex
    subst r1
    exact ⟨a, dx, _, rfl, h1, hf.lookup _ _ _, ask_core (E := E0) (vs := []) n1.ha ff1 (by simp only [RpAll]) hR hp fun y H3 A3 n3 r3 => q _ _ _ (n1.trans n3) r3⟩⟩
/-- a deed by a method -/
theorem dm_deed {R : Kp390.Monitor → List D → D → Kp390.Monitor → Prop} {ds : List D} {d : D} {pl : Sem Bool} (G : MetC X.prog X.w X.K X.mg X.base k CM m (spM X.K C CM R)) (hr : Room k X.A) (T : MTxt X.K CM) (hf : NoM m) (ho : DE C X o (MonF X.K C CM a g e mo) δ (.raw (.ref a))) (ha : DA C X (ex :: es) (MonF X.K C CM a g e mo) δ ds) (hR : R mo ds d m1)
    (hst : starEach (ex :: es) X.env = (false, eval ex X.env) :: starEach es X.env := by rfl) (hpl : (backTo pos (starEach es X.env)).any (·.1) = false := by rfl)
    (ht : eval (.Call (.Attribute o m apos) (ex :: es) [] pos) X.env = (do
      let ov ← eval o X.env
      standAt apos.atName
      let (f, first) ← holding [ov] (getMethod ov m pl)
      callWith pos f first (backTo pos (starEach (ex :: es) X.env)) (backToKw pos (keywordEach [] X.env))) := by rfl) : DM C X (Mt3 a g e) (.Call (.Attribute o m apos) (ex :: es) [] pos) (MonF X.K C CM a g e mo) δ (MonF X.K C CM a g e m1) d := by
  obtain ⟨f, fd, ps, G, hm, hb⟩ := G
  exact pe_imp (pe_meth ho T.cl hm G hr hb .nil pass0 ha hst hpl ht) fun σ A Q ⟨H0, A0, H, s, q⟩ => of_DE s fun v H1 A1 s1 r1 => by
    simp only [Rp] at r1
    obtain ⟨dx, pa, xs, ys, h1, h2, h3, h4, h5, h6⟩ := s1.f.ex
    subst r1
    refine ⟨a, dx, _, rfl, h1, hf.lookup _ _ _, Mt3 a g e, A0, H1, s1.ha, s1.f, s1.sl, fun vs H2 A2 n2 r2 => ?_⟩
    show spM X.K C CM R (V.ref a :: (vs ++ [])) A2 Q _
    rw [List.append_nil]
    exact deed_core (s1.nx n2) r2 hR q
/-- a deed by a def -/
theorem dm_call {R : Kp390.Monitor → List D → D → Kp390.Monitor → Prop} {ds : List D} {d : D} (G : Cal X.prog X.w X.K X.mg X.base k x (spM X.K C CM R)) (hr : Room k X.A) (ho : DE C X o (MonF X.K C CM a g e mo) δ (.raw (.ref a))) (ha : DA C X es (MonF X.K C CM a g e mo) δ ds) (hR : R mo ds d m1) (hg : Gl X x := by rfl) (hdb : (x == ("__debug__" : Str)) = false := by decide)
    (he : starEach (o :: es) X.env = (false, eval o X.env) :: starEach es X.env := by rfl) (hpl : (backTo pos (starEach es X.env)).any (·.1) = false := by rfl) : DM C X (Mt3 a g e) (.Call (.Name x p) (o :: es) [] pos) (MonF X.K C CM a g e mo) δ (MonF X.K C CM a g e m1) d := by
  obtain ⟨f, fd, ps, G, hm, hk, hb⟩ := G
  exact pe_imp (pe_call G hr hg hm hk hb .nil pass0 (pa_cons ho ha he) hdb he hpl) fun σ A Q ⟨H0, A0, H, s, q⟩ => by
    refine (of_DE s fun v H1 A1 s1 r1 => ?_ : teD X.K C (MonF X.K C CM a g e mo) δ (.raw (.ref a)) σ A _)
    simp only [Rp] at r1
    subst r1
    refine ⟨Mt3 a g e, A0, H1, s1.ha, s1.f, s1.sl, fun vs H2 A2 n2 r2 => ?_⟩
    show spM X.K C CM R ((V.ref a :: vs) ++ []) A2 Q _
    rw [List.append_nil]
    exact deed_core (s1.nx n2) r2 hR q
/-- all_hold(process, self.guarantees) -/
theorem de_callG {pr : Kp389.Process} {d : Bool} {R : List D → D → Prop} (G : Cal X.prog X.w X.K X.mg X.base k x (spD X.K C R)) (hr : Room k X.A) (ha : DE C X b (MonF X.K C CM a g e mo) δ (.proc pr)) (hb : DE C X c (MonF X.K C CM a g e mo) δ (.raw (.ref g))) (hR : R [.proc pr, .lst (mo.guarantees.map gD)] (.bl d)) (hg : Gl X x := by rfl) (hdb : (x == ("__debug__" : Str)) = false := by decide)
    (he : starEach (b :: [c]) X.env = (false, eval b X.env) :: starEach [c] X.env := by rfl) (he2 : starEach (c :: []) X.env = (false, eval c X.env) :: starEach [] X.env := by rfl) (hpl : (backTo pos (starEach [c] X.env)).any (·.1) = false := by rfl) : DE C X (.Call (.Name x p) [b, c] [] pos) (MonF X.K C CM a g e mo) δ (.bl d) := by
  obtain ⟨f, fd, ps, G, hm, hk, hbn⟩ := G
  exact pe_imp (pe_call G hr hg hm hk hbn .nil pass0 (da_cons ha (da_cons hb da_nil he2) he) hdb he hpl) fun σ A Q ⟨M, A0, H, ea, ff, s, q⟩ => ⟨M, A0, H, ea, ff, s, fun vs H' A' n r => by
    have ff1 := (MonF X.K C CM a g e mo).st n ff
    obtain ⟨H2, x1, x2, mk, ⟨xs, g1, g2⟩, _, _, h4⟩ := addM_ex n.ha ff1
    match vs, r with
    | [v1, v2], r =>
      simp only [RpAll] at r
      obtain ⟨r1, r2, _⟩ := r
      simp only [Rp] at r2
      subst r2
      refine ⟨H2, [.proc pr, .lst (mo.guarantees.map gD)], .bl d, x2, ?_, hR, fun v H3 A3 n3 r3 => q v H' A3 (n.trans ⟨.refl _, n3.aa, n.ha.trans n3.aa, fun b h1 h2 => h1⟩) (by simp only [Rp] at r3 ⊢; exact r3)⟩
      rw [List.append_nil]
      simp only [RpAll]
      refine ⟨rp_mono x1 _ _ r1, ?_, True.intro⟩
      simp only [Rp]
      exact ⟨g, xs, rfl, g1, g2⟩
    | [], r => simp only [RpAll] at r
    | [_], r => simp only [RpAll] at r; exact r.2.elim
    | _ :: _ :: _ :: _, r => simp only [RpAll] at r; exact r.2.2.elim⟩
end
end Sw
namespace Sw
open PySem PySem.Spec PyProof.Rows L2
section
variable {C CM a g e : Addr} {X : Cx} {F : Fm} {δ : List SD} {b c o ex : Expr} {es : List Expr} {pos p apos : Pos} {k : Nat} {x m : Str} {mo m1 : Kp390.Monitor}
theorem de_lenH {l : Addr} {ds : List D} {p pos : Pos} (hh : Holds X.K C F l ds) (hm : MgN X.mg "len") (h : DE C X b F δ (.raw (.ref l))) (hg : Gl X "len" := by rfl) (hs : starEach (b :: []) X.env = (false, eval b X.env) :: starEach [] X.env := by rfl) : DE C X (.Call (.Name "len" p) [b] [] pos) F δ (.int ds.length) :=
  pe_imp (pe_callB call_len_seq hg hm PySem.boot_len (da_cons h da_nil hs) (he := hs)) fun σ A Q ⟨M, A0, H, ea, f, s, q⟩ => ⟨M, A0, H, ea, f, s, fun vs H' A' n r => by
    match vs, r with
    | [v], r =>
      simp only [RpAll, Rp] at r
      obtain ⟨_, xs, e2, e3⟩ := hh _ _ (F.st n f)
      exact ⟨l, xs, by rw [r.1], .inl (SqL.of e2), by rw [rpAll_len e3]; exact q _ _ _ n (by simp only [Rp])⟩
    | [], r => simp only [RpAll] at r
    | _ :: _ :: _, r => simp only [RpAll] at r; exact r.2.elim⟩
/-- a datum in a list that the frame tells of -/
theorem dt_inH {l : Addr} {ds : List D} {d : D} {k : Bool} (hh : Holds X.K C F l ds) (ha : DE C X b F δ d) (hb : DE C X c F δ (.raw (.ref l))) (p1 : plainD d = true) (p2 : plainDs ds = true) (s1 : SeqAt.shaped (toP d) = true) (s2 : SeqAt.shaped (.list (toPs ds)) = true) (hk : ((toPs ds).any fun z => PyData.eqv z (toP d)) = k) (hu : X.A.units + 65 < cLine) (hm : behindInMarks .In c = false := by rfl) : DT C X (.Compare b [.In] [c] pos) F δ k :=
  pt_imp (pt_cmpR (op_inD hu) ha hb hm) fun σ A Q ⟨M, A0, H, ea, f, s, q'⟩ => seq2 ea f s fun x y H2 A2 n r1 r2 => by
    simp only [Rp] at r2
    obtain ⟨_, xs, e2, e3⟩ := hh _ _ (F.st n f)
    exact ⟨toP d, toPs ds, dp_of n.ha _ _ p1 r1, by rw [r2]; exact .lst (SqL.of e2) (dps_of n.ha ds xs p2 e3), s1, s2, _, rfl, by rw [hk]; exact q' _ _ n⟩
/-- self.process = e -/
theorem ds_setP {pr : Kp389.Process} {pos' : Pos} (T : MTxt X.K CM) (ho : DE C X o (MonF X.K C CM a g e mo) δ (.raw (.ref a))) (hv : DE C X b (MonF X.K C CM a g e mo) δ (.proc pr)) (hs : swapsWith b (some (.Attribute o "process" pos')) pos.line X.env = pure false := by rfl) :
    DS C X (Mt3 a g e) (.Assign [.Attribute o "process" pos'] b pos) (MonF X.K C CM a g e mo) δ (.nx (MonF X.K C CM a g e { mo with process := pr }) δ) :=
  ps_imp (ps_fld ho hv hs) fun E σ A ⟨H0, A0, H, s, q⟩ => by
    refine (of_DE s fun v H1 A1 s1 r1 => ?_ : teD X.K C (MonF X.K C CM a g e mo) δ (.proc pr) σ A _)
    have rb : StA X.K C (Mt3 a g e) (MonF X.K C CM a g e mo) H1 A0 H1 A1 σ δ := ⟨.refl _, s1.aa, s1.at0, s1.ha, fun b z1 z2 => z1, s1.f, s1.sl⟩
    refine (of_DE rb fun u H2 A2 s2 r2 => ?_ : teD X.K C (MonF X.K C CM a g e mo) δ (.raw (.ref a)) σ A1 _)
    simp only [Rp] at r1 r2
    subst r2
    obtain ⟨pa', rfl, hp⟩ := r1
    have f2 := s2.f
    obtain ⟨⟨dx, pa, xs, ys, h1, h2, h3, h4, h5, h6⟩, i1, i2, i3, i4, i5, i6⟩ := f2
    refine ⟨a, CM, dx, _, rfl, h1, T.cl, T.n1, (by show 3 < 1000; decide), ?_⟩
    have e1 : putF "process" (V.ref pa') (mF pa g e) = mF pa' g e := put_here
    rw [e1]
    exact q _ _ _ ((s1.rebase s2).mutM (b := a) (.inl rfl) i1 ⟨⟨dx, pa', xs, ys, upd_same, by rw [upd_ne i4.symm]; exact h2, by rw [upd_ne i5.symm]; exact h3, proc_mono s2.hh hp, h5, h6⟩, i1, i2, i3, i4, i5, i6⟩)
theorem expr_drop {st : Stmt} {F1 : Fm} {o' : Expr} (h : PE X o' (fun σ A Q => ∃ H0 A0 H, StA X.K C (Mt3 a g e) F H0 A0 H A σ δ ∧ ∀ v H' A', StA X.K C (Mt3 a g e) F1 H0 A0 H' A' σ δ → Q v A')) (hs : swapsWith o' none pos.line X.env = pure false := by rfl) : DS C X (Mt3 a g e) (.Expr o' pos) F δ (.nx F1 δ) :=
  ps_imp (ps_expr h hs) fun E σ A ⟨H0, A0, H, s, q⟩ => ⟨H0, A0, H, s, fun v H' A' s' => q _ _ _ s'⟩
/-- self.guarantees.append(e) -/
theorem ds_appG {gu : Kp390.Guarantee} (hl : mo.guarantees.length ≤ 1000) (ho : DE C X o (MonF X.K C CM a g e mo) δ (.raw (.ref g))) (h : DE C X ex (MonF X.K C CM a g e mo) δ (gD gu))
    (hse : starEach (ex :: []) X.env = (false, eval ex X.env) :: starEach [] X.env := by rfl) (hsw : swapsWith (.Call (.Attribute o "append" apos) [ex] [] pos) none pos.line X.env = pure false := by rfl)
    (hbase : attributeBase o "append" X.env (eval o X.env) = eval o X.env := by rfl)
    (hfew : ((backTo pos (starEach [ex] X.env)).all (fun x => !x.1) && (backToKw pos (keywordEach [] X.env)).all (fun x => x.1.isSome)
      && decide (([ex] : List Expr).length + ([] : List Keyword).length + (if ([] : List Keyword).isEmpty then 0 else 1) < 30)) = true := by rfl)
    (hline : (apos.endLine == pos.line) = true := by rfl) : DS C X (Mt3 a g e) (.Expr (.Call (.Attribute o "append" apos) [ex] [] pos) pos) (MonF X.K C CM a g e mo) δ (.nx (MonF X.K C CM a g e { mo with guarantees := mo.guarantees ++ [gu] }) δ) :=
  ps_imp (ps_expr (pe_bm PySem.F.plainAttrs_list PySem.F.slot_list_append PySem.F.type_list_append mt_append ho (da_cons h da_nil hse) hbase hfew hline hse rfl) hsw) fun E σ A ⟨H0, A0, H, s, q⟩ => by
    refine (of_DE s fun u H1 A1 s1 r1 => ?_ : teD X.K C (MonF X.K C CM a g e mo) δ (.raw (.ref g)) σ A _)
    simp only [Rp] at r1
    subst r1
    have f1 := s1.f
    obtain ⟨⟨dx, pa, xs, ys, h1, h2, h3, h4, h5, h6⟩, i1, i2, i3, i4, i5, i6⟩ := f1
    refine ⟨.inl ⟨rfl, xs, SqL.of h2⟩, Mt3 a g e, A0, H1, s1.ha, s1.f, s1.sl, fun vs H2 A2 n r => ?_⟩
    have s2 := s1.nx n
    match vs, r with
    | [v], r =>
      simp only [RpAll] at r
      have hx := rpAll_len h5
      rw [List.length_map] at hx
      refine ⟨g, xs, v, rfl, rfl, n.aa _ _ h2, by rw [hx]; exact sz_lt hl rfl, q _ _ _ (s2.mutM (b := g) (.inr (.inl rfl)) (n.sep _ i2 (by rw [h2]; exact fun z => by cases z)) ?_)⟩
      refine ⟨⟨dx, pa, xs ++ [v], ys, by rw [upd_ne i4]; exact n.aa _ _ h1, upd_same, by rw [upd_ne i6.symm]; exact n.aa _ _ h3, proc_mono n.hh h4, ?_, rpAll_mono n.hh _ _ h6⟩, n.sep _ i1 (by rw [h1]; exact fun z => by cases z), n.sep _ i2 (by rw [h2]; exact fun z => by cases z), n.sep _ i3 (by rw [h3]; exact fun z => by cases z), i4, i5, i6⟩
      show RpAll X.K C H2 (xs ++ [v]) ((mo.guarantees ++ [gu]).map gD)
      rw [List.map_append]
      exact rpAll_app (rpAll_mono n.hh _ _ h5) (by simp only [List.map_cons, List.map_nil, RpAll]; exact ⟨r.1, True.intro⟩)
    | [], r => simp only [RpAll] at r
    | _ :: _ :: _, r => simp only [RpAll] at r; exact r.2.elim
theorem ds_appE {gu : Kp390.Episode} (hl : mo.episodes.length ≤ 1000) (ho : DE C X o (MonF X.K C CM a g e mo) δ (.raw (.ref e))) (h : DE C X ex (MonF X.K C CM a g e mo) δ (epD gu))
    (hse : starEach (ex :: []) X.env = (false, eval ex X.env) :: starEach [] X.env := by rfl) (hsw : swapsWith (.Call (.Attribute o "append" apos) [ex] [] pos) none pos.line X.env = pure false := by rfl)
    (hbase : attributeBase o "append" X.env (eval o X.env) = eval o X.env := by rfl)
    (hfew : ((backTo pos (starEach [ex] X.env)).all (fun x => !x.1) && (backToKw pos (keywordEach [] X.env)).all (fun x => x.1.isSome)
      && decide (([ex] : List Expr).length + ([] : List Keyword).length + (if ([] : List Keyword).isEmpty then 0 else 1) < 30)) = true := by rfl)
    (hline : (apos.endLine == pos.line) = true := by rfl) : DS C X (Mt3 a g e) (.Expr (.Call (.Attribute o "append" apos) [ex] [] pos) pos) (MonF X.K C CM a g e mo) δ (.nx (MonF X.K C CM a g e { mo with episodes := mo.episodes ++ [gu] }) δ) :=
  ps_imp (ps_expr (pe_bm PySem.F.plainAttrs_list PySem.F.slot_list_append PySem.F.type_list_append mt_append ho (da_cons h da_nil hse) hbase hfew hline hse rfl) hsw) fun E σ A ⟨H0, A0, H, s, q⟩ => by
    refine (of_DE s fun u H1 A1 s1 r1 => ?_ : teD X.K C (MonF X.K C CM a g e mo) δ (.raw (.ref e)) σ A _)
    simp only [Rp] at r1
    subst r1
    have f1 := s1.f
    obtain ⟨⟨dx, pa, xs, ys, h1, h2, h3, h4, h5, h6⟩, i1, i2, i3, i4, i5, i6⟩ := f1
    refine ⟨.inl ⟨rfl, ys, SqL.of h3⟩, Mt3 a g e, A0, H1, s1.ha, s1.f, s1.sl, fun vs H2 A2 n r => ?_⟩
    have s2 := s1.nx n
    match vs, r with
    | [v], r =>
      simp only [RpAll] at r
      have hx := rpAll_len h6
      rw [List.length_map] at hx
      refine ⟨e, ys, v, rfl, rfl, n.aa _ _ h3, by rw [hx]; exact sz_lt hl rfl, q _ _ _ (s2.mutM (b := e) (.inr (.inr rfl)) (n.sep _ i3 (by rw [h3]; exact fun z => by cases z)) ?_)⟩
      refine ⟨⟨dx, pa, xs, ys ++ [v], by rw [upd_ne i5]; exact n.aa _ _ h1, by rw [upd_ne i6]; exact n.aa _ _ h2, upd_same, proc_mono n.hh h4, rpAll_mono n.hh _ _ h5, ?_⟩, n.sep _ i1 (by rw [h1]; exact fun z => by cases z), n.sep _ i2 (by rw [h2]; exact fun z => by cases z), n.sep _ i3 (by rw [h3]; exact fun z => by cases z), i4, i5, i6⟩
      show RpAll X.K C H2 (ys ++ [v]) ((mo.episodes ++ [gu]).map epD)
      rw [List.map_append]
      exact rpAll_app (rpAll_mono n.hh _ _ h6) (by simp only [List.map_cons, List.map_nil, RpAll]; exact ⟨r.1, True.intro⟩)
    | [], r => simp only [RpAll] at r
    | _ :: _ :: _, r => simp only [RpAll] at r; exact r.2.elim
theorem rpAll_erase {K : PySem.W.Frag} {H : Hp} : ∀ (n : Nat) {vs : List V} {ds : List D}, RpAll K C H vs ds → RpAll K C H (vs.eraseIdx n) (ds.eraseIdx n)
  | _, [], [], _ => by simp only [List.eraseIdx_nil, RpAll]
  | _, [], _ :: _, h => by simp only [RpAll] at h
  | _, _ :: _, [], h => by simp only [RpAll] at h
  | 0, v :: vs, d :: ds, h => by
    simp only [RpAll] at h
    simp only [List.eraseIdx_cons_zero]
    exact h.2
  | n + 1, v :: vs, d :: ds, h => by
    simp only [RpAll] at h
    simp only [List.eraseIdx_cons_succ, RpAll]
    exact ⟨h.1, rpAll_erase n h.2⟩
theorem erase_map {α β : Type} (f : α → β) : ∀ (l : List α) (i : Nat), (l.eraseIdx i).map f = (l.map f).eraseIdx i
  | [], _ => rfl
  | _ :: _, 0 => rfl
  | x :: l, i + 1 => by simp [erase_map f l i]
/-- self.guarantees.pop(i) -/
theorem ds_popG {i : Nat} (hi : i < mo.guarantees.length) (hl : mo.guarantees.length ≤ 1000) (ho : DE C X o (MonF X.K C CM a g e mo) δ (.raw (.ref g))) (h : DE C X ex (MonF X.K C CM a g e mo) δ (.int (i : Nat)))
    (hse : starEach (ex :: []) X.env = (false, eval ex X.env) :: starEach [] X.env := by rfl) (hsw : swapsWith (.Call (.Attribute o "pop" apos) [ex] [] pos) none pos.line X.env = pure false := by rfl)
    (hbase : attributeBase o "pop" X.env (eval o X.env) = eval o X.env := by rfl)
    (hfew : ((backTo pos (starEach [ex] X.env)).all (fun x => !x.1) && (backToKw pos (keywordEach [] X.env)).all (fun x => x.1.isSome)
      && decide (([ex] : List Expr).length + ([] : List Keyword).length + (if ([] : List Keyword).isEmpty then 0 else 1) < 30)) = true := by rfl)
    (hline : (apos.endLine == pos.line) = true := by rfl) : DS C X (Mt3 a g e) (.Expr (.Call (.Attribute o "pop" apos) [ex] [] pos) pos) (MonF X.K C CM a g e mo) δ (.nx (MonF X.K C CM a g e { mo with guarantees := mo.guarantees.eraseIdx i }) δ) :=
  ps_imp (ps_expr (pe_bm PySem.F.plainAttrs_list PySem.F.slot_list_pop PySem.F.type_list_pop mt_popAt ho (da_cons h da_nil hse) hbase hfew hline hse rfl) hsw) fun E σ A ⟨H0, A0, H, s, q⟩ => by
    refine (of_DE s fun u H1 A1 s1 r1 => ?_ : teD X.K C (MonF X.K C CM a g e mo) δ (.raw (.ref g)) σ A _)
    simp only [Rp] at r1
    subst r1
    have f1 := s1.f
    obtain ⟨⟨dx, pa, xs, ys, h1, h2, h3, h4, h5, h6⟩, i1, i2, i3, i4, i5, i6⟩ := f1
    refine ⟨.inl ⟨rfl, xs, SqL.of h2⟩, Mt3 a g e, A0, H1, s1.ha, s1.f, s1.sl, fun vs H2 A2 n r => ?_⟩
    have s2 := s1.nx n
    match vs, r with
    | [v], r =>
      simp only [RpAll, Rp] at r
      have hx := rpAll_len h5
      rw [List.length_map] at hx
      have hix : i < xs.length := by omega
      refine ⟨g, xs, (i : Nat), i, xs[i], rfl, by rw [r.1], n.aa _ _ h2, by omega, by omega, ?_, List.getElem?_eq_getElem hix, q _ _ _ (s2.mutM (b := g) (.inr (.inl rfl)) (n.sep _ i2 (by rw [h2]; exact fun z => by cases z)) ?_)⟩
      · rw [seqIndex_of (by omega) (by omega)]; simp
      · refine ⟨⟨dx, pa, xs.eraseIdx i, ys, by rw [upd_ne i4]; exact n.aa _ _ h1, upd_same, by rw [upd_ne i6.symm]; exact n.aa _ _ h3, proc_mono n.hh h4, ?_, rpAll_mono n.hh _ _ h6⟩, n.sep _ i1 (by rw [h1]; exact fun z => by cases z), n.sep _ i2 (by rw [h2]; exact fun z => by cases z), n.sep _ i3 (by rw [h3]; exact fun z => by cases z), i4, i5, i6⟩
        show RpAll X.K C H2 (xs.eraseIdx i) ((mo.guarantees.eraseIdx i).map gD)
        rw [erase_map]
        exact rpAll_erase i (rpAll_mono n.hh _ _ h5)
    | [], r => simp only [RpAll] at r
    | _ :: _ :: _, r => simp only [RpAll] at r; exact r.2.elim
end
end Sw
namespace Sw
open PySem PySem.Spec PyProof.Rows L2
section
variable {C : Addr} {X : Cx} {M : Mt} {F F1 : Fm} {δ : List SD} {o : Out} {rest ba bb : List Stmt} {a b c : Expr} {pos : Pos} {d : D}
theorem de_ifeT (hc : DT C X c F δ true) (ha : DE C X a F δ d) : DE C X (.IfExp c a b pos) F δ d := de_ife hc (fun _ => ha) (fun h => by cases h)
theorem de_ifeF (hc : DT C X c F δ false) (ha : DE C X b F δ d) : DE C X (.IfExp c a b pos) F δ d := de_ife hc (fun h => by cases h) (fun _ => ha)
theorem db_ifT (hc : DT C X c F δ true) (ha : DB C X M ba F δ (.rt F1 d)) : DB C X M (.If c ba [] pos :: rest) F δ (.rt F1 d) := db_if hc (fun _ => ⟨F1, d, rfl, ha⟩) (fun h => by cases h)
theorem db_ifF (hc : DT C X c F δ false) (hb : DB C X M rest F δ o) : DB C X M (.If c ba [] pos :: rest) F δ o := db_if hc (fun h => by cases h) (fun _ => hb)
end
/-! ### within bounds -/
def R_within : List D → D → Prop := fun ds d => ∃ (ns : List Int) (k : Int), ds = [intD ns, .int k] ∧ ns.length ≤ 1000 ∧ d = .bl (ns.all fun x => decide (-k ≤ x) && decide (x ≤ k))
abbrev sWithin : Stmt := top 74
theorem scWithin : FnScope ["numbers", "most", "number"] ["numbers", "most"] (defScope sWithin) := ⟨rfl, rfl, rfl, by decide +kernel, rfl, by decide +kernel, by decide +kernel⟩
section
variable {P : Program} {w : World} {K : PySem.W.Frag} {mg : Str → Option Value} {base : Heap} {C CM : Addr} {f : Addr} {fd : FuncData}
theorem ok_within (G : Fun K "are_within" "are_within" sWithin f fd) (nA : MgN mg "all") : FnOk P w K mg base CX0 1 f fd ["numbers", "most"] (spD K C R_within) := by
  refine pure_def G scWithin (fun ds d ⟨_, _, h, _⟩ => by rw [h]; rfl) fun cdv A outer s H E hr ds d h => ?_
  obtain ⟨ns, k, rfl, hl, rfl⟩ := h
  refine db_one (ds_ret (de_is (de_all (bs := ns.map fun x => decide (-k ≤ x) && decide (x ≤ k)) nA (de_of (dn_lc (n := "number") (i := 2) (di_list (dv 0)) (blkOk_by (N := ["numbers", "most", "number"]) (sc := defScope sWithin) (by decide +kernel)) scWithin.nd (fun _ _ _ _ _ => pg_name (i := 2) scWithin.nd rfl (Or.inl rfl)) ?_ ?_ (fun i d e hd he s H C' cl fp => ?_)))) ?_))
  · simp
  · exact sz_le (m := 1000) (by rw [List.length_map]; exact hl) rfl
  · obtain ⟨_, rfl, _⟩ := map_get 0 hd
    rw [List.map_map] at he
    obtain ⟨_, rfl, _⟩ := map_get 0 he
    exact de_chain (p := fun i j => decide (i ≤ j)) (p' := fun i j => decide (i ≤ j)) op_le op_le (de_neg (dv 1)) (dv 2) (dv 1)
  · simp [List.all_map, Function.comp_def]
/-! ### monitors -/
structure MWf (m : Kp390.Monitor) : Prop where
  pw : PWf m.process
  gl : m.guarantees.length ≤ 3
  el : m.episodes.length ≤ 12
  eo : ∀ e ∈ m.episodes, EpOk m.process e
def outA (r : Kp390.Ans) : D := intD (r.num :: r.nums)
def RQ (mk : List D → Kp390.Call → Prop) : Kp390.Monitor → List D → D → Prop := fun m ds d => ∃ c, mk ds c ∧ MWf m ∧ d = outA (Kp390.step (some m) c).2
def RD (mk : List D → Kp390.Call → Prop) : Kp390.Monitor → List D → D → Kp390.Monitor → Prop := fun m ds d m' => ∃ c, mk ds c ∧ MWf m ∧ d = outA (Kp390.step (some m) c).2 ∧ some m' = (Kp390.step (some m) c).1
abbrev inM (j : Nat) : Stmt := inClass (top 75) j
/-- the module's numbers -/
structure Nums (mg : Str → Option Value) : Prop where
  tables : MgI mg "TABLES" 2
  mreward : MgI mg "MOST_REWARD" 1000
  mfactor : MgI mg "MOST_FACTOR" 100
  mchanged : MgI mg "MOST_CHANGED" 100000
  mweight : MgI mg "MOST_WEIGHT" 9
  msteps : MgI mg "MOST_STEPS" 6
  mrandom : MgI mg "MOST_RANDOM" 999
  mguar : MgI mg "MOST_GUARANTEES" 3
  mepis : MgI mg "MOST_EPISODES" 12
  missing : MgI mg "MISSING" (-2)
  present : MgI mg "PRESENT" (-17)
  outside : MgI mg "OUTSIDE" (-22)
  full : MgI mg "FULL" (-28)
  violated : MgI mg "VIOLATED" (-30)
  notThere : MgI mg "NOT_THERE" (-33)
  tooLarge : MgI mg "TOO_LARGE" (-75)
  len : MgN mg "len"
  int : MgN mg "int"
  sum : MgN mg "sum"
  list : MgN mg "list"
  all : MgN mg "all"
  range : MgN mg "range"
/-- what the monitor's methods lean on -/
structure PGm (P : Program) (w : World) (K : PySem.W.Frag) (mg : Str → Option Value) (base : Heap) (C CM : Addr) : Prop where
  g : PG1 P w K mg base C
  T : MTxt K CM
  n : Nums mg
  equiv : Cal P w K mg base 4 "are_equivalent" (spD K C R_equiv)
  pots : Cal P w K mg base 3 "potentials_of" (spD K C R_pots)
  factor : Cal P w K mg base 4 "factor_of" (spD K C R_factor)
  same : Cal P w K mg base 12 "have_same_actions" (spD K C R_same)
  optv : Cal P w K mg base 10 "optimal_values" (spD K C R_optv)
  vf : Cal P w K mg base 3 "value_fractions" (spD K C R_vf)
  optp : Cal P w K mg base 12 "optimal_policy" (spD K C R_optp)
  regr : Cal P w K mg base 13 "regrets" (spD K C R_regr)
  nums : Cal P w K mg base 1 "numbers_of" (spD K C R_nums)
  least : Cal P w K mg base 14 "least_bound" (spD K C R_least)
  holds : Cal P w K mg base 15 "holds" (spD K C R_holds)
  allh : Cal P w K mg base 16 "all_hold" (spD K C R_all)
  isg : Cal P w K mg base 1 "is_guarantee" (spD K C R_isg)
  ep : Cal P w K mg base 14 "episode_of" (spD K C R_ep)
  epn : Cal P w K mg base 2 "episode_numbers" (spD K C R_epn)
  corr : Cal P w K mg base 5 "corrected" (spD K C R_corr)
  plus : Cal P w K mg base 3 "plus" (spD K C R_plus)
  only : Cal P w K mg base 1 "only_at" (spD K C R_only)
  shaped : Cal P w K mg base 3 "shaped" (spD K C R_shaped)
  scaled : Cal P w K mg base 1 "scaled" (spD K C R_scaled)
  within : Cal P w K mg base 1 "are_within" (spD K C R_within)
  count : MetC P w K mg base 1 C "reward_count" (spD K C R_count)
  place : MetC P w K mg base 1 C "place" (spD K C R_place)
  wtab : MetC P w K mg base 3 C "with_table" (spD K C R_wtab)
  wwei : MetC P w K mg base 3 C "with_weights" (spD K C R_wwei)
theorem lenNums {qs : List Rat} {n : Nat} (h : qs.length ≤ n) : ((qs.flatMap frN).map D.int).length ≤ n * 2 := by
  rw [List.length_map, flat_len (n := 2) (fun _ => rfl)]; omega
/-! ### questions -/
abbrev scope1 : Scope := defScope (inM 2)
def RhasS : Kp390.Monitor → List D → D → Prop := fun m ds d => ∃ s : Nat, ds = [.int s] ∧ d = .bl (decide (s < m.process.stateCount))
theorem scHasS : FnScope ["self", "state"] ["self", "state"] (defScope (inM 2)) := ⟨rfl, rfl, rfl, by decide +kernel, rfl, by decide +kernel, by decide +kernel⟩
theorem ok_hasS (G : Fun K "has_state" "Monitor.has_state" (inM 2) f fd) (g : PGm P w K mg base C CM) : FnOk P w K mg base CX0 1 f fd ["self", "state"] (spQ K C CM RhasS) := by
  refine ask_def G scHasS (fun m ds d ⟨_, h, _⟩ => by rw [h]; rfl) fun cdv A outer s' H E hr a m ds d h => ?_
  obtain ⟨s, rfl, rfl⟩ := h
  refine db_one (ds_ret (de_is (de_lt (dv 1) (de_fld pf_states g.g.T.cl g.g.T.n1 (de_kproc g.T (dv 0)))) ?_))
  congr 1
  exact decide_eq_decide.mpr (by omega)
def RhasA : Kp390.Monitor → List D → D → Prop := fun m ds d => ∃ s : Nat, ds = [.int s] ∧ d = .bl (decide (s < m.process.actionCount))
theorem scHasA : FnScope ["self", "action"] ["self", "action"] (defScope (inM 3)) := ⟨rfl, rfl, rfl, by decide +kernel, rfl, by decide +kernel, by decide +kernel⟩
theorem ok_hasA (G : Fun K "has_action" "Monitor.has_action" (inM 3) f fd) (g : PGm P w K mg base C CM) : FnOk P w K mg base CX0 1 f fd ["self", "action"] (spQ K C CM RhasA) := by
  refine ask_def G scHasA (fun m ds d ⟨_, h, _⟩ => by rw [h]; rfl) fun cdv A outer s' H E hr a m ds d h => ?_
  obtain ⟨s, rfl, rfl⟩ := h
  refine db_one (ds_ret (de_is (de_lt (dv 1) (de_fld pf_actions g.g.T.cl g.g.T.n2 (de_kproc g.T (dv 0)))) ?_))
  congr 1
  exact decide_eq_decide.mpr (by omega)
theorem scSelf1 {j : Nat} (h : FnScope ["self"] ["self"] (defScope (inM j))) : True := True.intro
def mk_equiv : List D → Kp390.Call → Prop := fun ds c => ds = [] ∧ c = .areEquivalent
theorem scEq : FnScope ["self"] ["self"] (defScope (inM 12)) := ⟨rfl, rfl, rfl, by decide +kernel, rfl, by decide +kernel, by decide +kernel⟩
theorem ok_qEquiv (G : Fun K "equivalent" "Monitor.equivalent" (inM 12) f fd) (g : PGm P w K mg base C CM) : FnOk P w K mg base CX0 20 f fd ["self"] (spQ K C CM (RQ mk_equiv)) := by
  refine ask_def G scEq (fun m ds d ⟨_, ⟨h, _⟩, _⟩ => by rw [h]; rfl) fun cdv A outer s' H E hr a m ds d h => ?_
  obtain ⟨_, ⟨rfl, rfl⟩, W, rfl⟩ := h
  have hr4 : Room 4 _ := hr.mono (by decide)
  exact db_one (ds_ret (de_of (dn_lst (da_cons (de_intb g.n.int (de_call g.equiv hr4 (da_cons (de_kproc g.T (dv 0)) da_nil) ⟨_, rfl, W.pw, rfl⟩)) da_nil))))
def mk_pots : List D → Kp390.Call → Prop := fun ds c => ds = [] ∧ c = .potentials
theorem scPo : FnScope ["self"] ["self"] (defScope (inM 13)) := ⟨rfl, rfl, rfl, by decide +kernel, rfl, by decide +kernel, by decide +kernel⟩
theorem ok_qPots (G : Fun K "potentials" "Monitor.potentials" (inM 13) f fd) (g : PGm P w K mg base C CM) : FnOk P w K mg base CX0 20 f fd ["self"] (spQ K C CM (RQ mk_pots)) := by
  refine ask_def G scPo (fun m ds d ⟨_, ⟨h, _⟩, _⟩ => by rw [h]; rfl) fun cdv A outer s' H E hr a m ds d h => ?_
  obtain ⟨_, ⟨rfl, rfl⟩, W, rfl⟩ := h
  have hr1 : Room 1 _ := hr.mono (by decide)
  have hr3 : Room 3 _ := hr.mono (by decide)
  have hr4 : Room 4 _ := hr.mono (by decide)
  have n4 := W.pw.n4
  have T := g.g.T
  have pl := pots_len m.process (Kp389.difference m.process)
  have e : (Kp390.step (some m) .potentials).2 = (match Kp389.potentials m.process with | none => Kp390.single (-33) | some v => Kp390.fractionsResult v) := rfl
  rw [e]
  unfold Kp389.potentials
  cases he : Kp389.areEquivalent m.process with
  | false => exact db_ifT (dt_is (dt_not (dt_val (de_call g.equiv hr4 (da_cons (de_kproc g.T (dv 0)) da_nil) ⟨_, rfl, W.pw, rfl⟩))) (by rw [he]; rfl)) (db_one (ds_ret (de_of (dn_lst (da_cons (dg g.n.notThere) da_nil)))))
  | true =>
    refine db_ifF (dt_is (dt_not (dt_val (de_call g.equiv hr4 (da_cons (de_kproc g.T (dv 0)) da_nil) ⟨_, rfl, W.pw, rfl⟩))) (by rw [he]; rfl)) ?_
    have hl : (Kp389.potentialsOf m.process (Kp389.difference m.process)).length ≤ 4 := by omega
    have hz : ([D.int (m.process.stateCount : Int)] : List D).length + (((Kp389.potentialsOf m.process (Kp389.difference m.process)).flatMap frN).map D.int).length ≤ 100 := by
      have := lenNums hl
      show 1 + _ ≤ 100
      omega
    refine db_one (ds_ret (de_is (de_of (dn_cat (de_of (dn_lst (da_cons (de_fld pf_states T.cl T.n1 (de_kproc g.T (dv 0))) da_nil))) (de_call g.nums hr1 (da_cons (de_call g.pots hr3 (da_cons (de_kproc g.T (dv 0)) da_nil) ⟨_, rfl, W.pw, rfl⟩) da_nil) ⟨_, rfl, by omega, rfl⟩) (sz_le hz rfl))) ?_))
    show _ = outA (Kp390.fractionsResult _)
    unfold outA Kp390.fractionsResult
    rw [pl]
    rfl
def mk_factor : List D → Kp390.Call → Prop := fun ds c => ds = [] ∧ c = .equivalenceFactor
theorem scFa : FnScope ["self", "factor"] ["self"] (defScope (inM 14)) := ⟨rfl, rfl, rfl, by decide +kernel, rfl, by decide +kernel, by decide +kernel⟩
theorem ok_qFactor (G : Fun K "equivalence_factor" "Monitor.equivalence_factor" (inM 14) f fd) (g : PGm P w K mg base C CM) : FnOk P w K mg base CX0 20 f fd ["self"] (spQ K C CM (RQ mk_factor)) := by
  refine ask_def G scFa (fun m ds d ⟨_, ⟨h, _⟩, _⟩ => by rw [h]; rfl) fun cdv A outer s' H E hr a m ds d h => ?_
  obtain ⟨_, ⟨rfl, rfl⟩, W, rfl⟩ := h
  have hr1 : Room 1 _ := hr.mono (by decide)
  have hr4 : Room 4 _ := hr.mono (by decide)
  refine db_cons (ds_set 1 (de_call g.factor hr4 (da_cons (de_kproc g.T (dv 0)) da_nil) ⟨_, rfl, W.pw, rfl⟩) scFa.nd) ?_
  have e : (Kp390.step (some m) .equivalenceFactor).2 = (match Kp389.factor m.process with | none => Kp390.single (-33) | some c => Kp390.fractionResult c) := rfl
  rw [e]
  cases Kp389.factor m.process with
  | none => exact db_one (ds_ret (de_ifeT (dt_isN (dv 1)) (de_of (dn_lst (da_cons (dg g.n.notThere) da_nil)))))
  | some q =>
    have hz : ([D.int 0] : List D).length + (([q].flatMap frN).map D.int).length ≤ 100 := by simp [frN]
    exact db_one (ds_ret (de_ifeF (dt_isN (dv 1)) (de_of (dn_cat (de_of (dn_lst (da_cons de_int da_nil))) (de_call g.nums hr1 (da_cons (de_of (dn_lst (da_cons (dv 1) da_nil))) da_nil) ⟨[q], rfl, by show 1 ≤ 1000; decide, rfl⟩) (sz_le hz rfl)))))
def mk_same : List D → Kp390.Call → Prop := fun ds c => ds = [] ∧ c = .sameOptimalActions
theorem scSa : FnScope ["self"] ["self"] (defScope (inM 15)) := ⟨rfl, rfl, rfl, by decide +kernel, rfl, by decide +kernel, by decide +kernel⟩
theorem ok_qSame (G : Fun K "same_optimal_actions" "Monitor.same_optimal_actions" (inM 15) f fd) (g : PGm P w K mg base C CM) : FnOk P w K mg base CX0 20 f fd ["self"] (spQ K C CM (RQ mk_same)) := by
  refine ask_def G scSa (fun m ds d ⟨_, ⟨h, _⟩, _⟩ => by rw [h]; rfl) fun cdv A outer s' H E hr a m ds d h => ?_
  obtain ⟨_, ⟨rfl, rfl⟩, W, rfl⟩ := h
  have hr12 : Room 12 _ := hr.mono (by decide)
  exact db_one (ds_ret (de_of (dn_lst (da_cons (de_intb g.n.int (de_call g.same hr12 (da_cons (de_kproc g.T (dv 0)) da_nil) ⟨_, rfl, W.pw, rfl⟩)) da_nil))))
def mk_best : List D → Kp390.Call → Prop := fun ds c => ∃ t : Nat, ds = [.int t] ∧ c = .optimalValues t
theorem scBv : FnScope ["self", "table"] ["self", "table"] (defScope (inM 16)) := ⟨rfl, rfl, rfl, by decide +kernel, rfl, by decide +kernel, by decide +kernel⟩
theorem ok_qBest (G : Fun K "best_values" "Monitor.best_values" (inM 16) f fd) (g : PGm P w K mg base C CM) : FnOk P w K mg base CX0 20 f fd ["self", "table"] (spQ K C CM (RQ mk_best)) := by
  refine ask_def G scBv (fun m ds d ⟨_, ⟨_, h, _⟩, _⟩ => by rw [h]; rfl) fun cdv A outer s' H E hr a m ds d h => ?_
  obtain ⟨_, ⟨t, rfl, rfl⟩, W, rfl⟩ := h
  have hr1 : Room 1 _ := hr.mono (by decide)
  have hr3 : Room 3 _ := hr.mono (by decide)
  have hr10 : Room 10 _ := hr.mono (by decide)
  have n4 := W.pw.n4
  have T := g.g.T
  by_cases ht : t ≤ 1
  · have e : outA (Kp390.step (some m) (.optimalValues t)).2 = intD ((m.process.stateCount : Int) :: (pvL m.process t (bestP m.process t)).flatMap frN) := by
      show outA ⟨(Kp389.step (some m.process) (.optimalValues t)).2.num, (Kp389.step (some m.process) (.optimalValues t)).2.nums⟩ = _
      have : (Kp389.step (some m.process) (.optimalValues t)).2 = Kp389.fractionsResult (Kp389.policyValues m.process t (bestP m.process t)) := by
        show (if Kp389.isTable t then _ else _) = _
        rw [if_pos (show Kp389.isTable t = true from decide_eq_true ht)]
        rfl
      rw [this, pv_valQ W.pw t (bestP_pol W.pw t)]
      unfold outA Kp389.fractionsResult
      rw [List.length_map, List.length_range]
      rfl
    rw [e]
    have hl : (pvL m.process t (bestP m.process t)).length ≤ 4 := by simp [pvL]; omega
    have hz : ([D.int (m.process.stateCount : Int)] : List D).length + (((pvL m.process t (bestP m.process t)).flatMap frN).map D.int).length ≤ 100 := by
      have := lenNums hl
      show 1 + _ ≤ 100
      omega
    exact db_ifF (dt_is (dt_ge (dv 1) (dg g.n.tables)) (decide_eq_false (by omega))) (db_one (ds_ret (de_of (dn_cat (de_of (dn_lst (da_cons (de_fld pf_states T.cl T.n1 (de_kproc g.T (dv 0))) da_nil))) (de_call g.nums hr1 (da_cons (de_call g.vf hr3 (da_cons (de_call g.optv hr10 (da_cons (de_kproc g.T (dv 0)) (da_cons (dv 1) da_nil)) ⟨_, t, rfl, W.pw, ht, rfl⟩) da_nil) ⟨m.process, t, _, rfl, W.pw, ht, bestP_pol W.pw t, rfl⟩) da_nil) ⟨_, rfl, by omega, rfl⟩) (sz_le hz rfl)))))
  · have e : outA (Kp390.step (some m) (.optimalValues t)).2 = intD [-2] := by
      show outA ⟨(Kp389.step (some m.process) (.optimalValues t)).2.num, (Kp389.step (some m.process) (.optimalValues t)).2.nums⟩ = _
      have : (Kp389.step (some m.process) (.optimalValues t)).2 = Kp389.single (-2) := by
        show (if Kp389.isTable t then _ else _) = _
        rw [if_neg (show ¬ Kp389.isTable t = true from by unfold Kp389.isTable; simp; omega)]
      rw [this]
      rfl
    rw [e]
    exact db_ifT (dt_is (dt_ge (dv 1) (dg g.n.tables)) (decide_eq_true (by omega))) (db_one (ds_ret (de_of (dn_lst (da_cons (dg g.n.missing) da_nil)))))
def mk_policy : List D → Kp390.Call → Prop := fun ds c => ∃ t : Nat, ds = [.int t] ∧ c = .optimalPolicy t
theorem scPol : FnScope ["self", "table"] ["self", "table"] (defScope (inM 17)) := ⟨rfl, rfl, rfl, by decide +kernel, rfl, by decide +kernel, by decide +kernel⟩
theorem ok_qPolicy (G : Fun K "policy" "Monitor.policy" (inM 17) f fd) (g : PGm P w K mg base C CM) : FnOk P w K mg base CX0 20 f fd ["self", "table"] (spQ K C CM (RQ mk_policy)) := by
  refine ask_def G scPol (fun m ds d ⟨_, ⟨_, h, _⟩, _⟩ => by rw [h]; rfl) fun cdv A outer s' H E hr a m ds d h => ?_
  obtain ⟨_, ⟨t, rfl, rfl⟩, W, rfl⟩ := h
  have hr12 : Room 12 _ := hr.mono (by decide)
  have n4 := W.pw.n4
  have T := g.g.T
  by_cases ht : t ≤ 1
  · have e : outA (Kp390.step (some m) (.optimalPolicy t)).2 = intD ((m.process.stateCount : Int) :: (optP m.process t).map fun (x : Nat) => (x : Int)) := by
      show outA ⟨(Kp389.step (some m.process) (.optimalPolicy t)).2.num, (Kp389.step (some m.process) (.optimalPolicy t)).2.nums⟩ = _
      have : (Kp389.step (some m.process) (.optimalPolicy t)).2 = Kp389.listResult (optP m.process t) := by
        show (if Kp389.isTable t then _ else _) = _
        rw [if_pos (show Kp389.isTable t = true from decide_eq_true ht), optP_eq W.pw]
      rw [this]
      unfold outA Kp389.listResult Kp389.natResult
      rw [(optP_pol W.pw t).len]
    rw [e]
    have hl := (optP_pol W.pw t).len
    have hz : ([D.int (m.process.stateCount : Int)] : List D).length + (((optP m.process t).map fun (x : Nat) => (x : Int)).map D.int).length ≤ 100 := by
      rw [List.length_map, List.length_map]
      show 1 + _ ≤ 100
      omega
    exact db_one (ds_ret (de_ifeF (dt_is (dt_ge (dv 1) (dg g.n.tables)) (decide_eq_false (by omega))) (de_of (dn_cat (de_of (dn_lst (da_cons (de_fld pf_states T.cl T.n1 (de_kproc g.T (dv 0))) da_nil))) (de_call g.optp hr12 (da_cons (de_kproc g.T (dv 0)) (da_cons (dv 1) da_nil)) ⟨_, t, rfl, W.pw, ht, rfl⟩) (sz_le hz rfl)))))
  · have e : outA (Kp390.step (some m) (.optimalPolicy t)).2 = intD [-2] := by
      show outA ⟨(Kp389.step (some m.process) (.optimalPolicy t)).2.num, (Kp389.step (some m.process) (.optimalPolicy t)).2.nums⟩ = _
      have : (Kp389.step (some m.process) (.optimalPolicy t)).2 = Kp389.single (-2) := by
        show (if Kp389.isTable t then _ else _) = _
        rw [if_neg (show ¬ Kp389.isTable t = true from by unfold Kp389.isTable; simp; omega)]
      rw [this]
      rfl
    rw [e]
    exact db_one (ds_ret (de_ifeT (dt_is (dt_ge (dv 1) (dg g.n.tables)) (decide_eq_true (by omega))) (de_of (dn_lst (da_cons (dg g.n.missing) da_nil)))))
def mk_regr : List D → Kp390.Call → Prop := fun ds c => ds = [] ∧ c = .regrets
theorem scRg : FnScope ["self"] ["self"] (defScope (inM 18)) := ⟨rfl, rfl, rfl, by decide +kernel, rfl, by decide +kernel, by decide +kernel⟩
theorem ok_qRegr (G : Fun K "all_regrets" "Monitor.all_regrets" (inM 18) f fd) (g : PGm P w K mg base C CM) : FnOk P w K mg base CX0 20 f fd ["self"] (spQ K C CM (RQ mk_regr)) := by
  refine ask_def G scRg (fun m ds d ⟨_, ⟨h, _⟩, _⟩ => by rw [h]; rfl) fun cdv A outer s' H E hr a m ds d h => ?_
  obtain ⟨_, ⟨rfl, rfl⟩, W, rfl⟩ := h
  have hr1 : Room 1 _ := hr.mono (by decide)
  have hr13 : Room 13 _ := hr.mono (by decide)
  have n4 := W.pw.n4
  have T := g.g.T
  have rl := regrets_len W.pw
  have hl : (Kp389.regrets m.process).length ≤ 4 := by omega
  have hz : ([D.int (m.process.stateCount : Int)] : List D).length + (((Kp389.regrets m.process).flatMap frN).map D.int).length ≤ 100 := by
    have := lenNums hl
    show 1 + _ ≤ 100
    omega
  refine db_one (ds_ret (de_is (de_of (dn_cat (de_of (dn_lst (da_cons (de_fld pf_states T.cl T.n1 (de_kproc g.T (dv 0))) da_nil))) (de_call g.nums hr1 (da_cons (de_call g.regr hr13 (da_cons (de_kproc g.T (dv 0)) da_nil) ⟨_, rfl, W.pw, rfl⟩) da_nil) ⟨_, rfl, by omega, rfl⟩) (sz_le hz rfl))) ?_))
  show _ = outA ⟨((Kp389.regrets m.process).length : Int), _⟩
  rw [rl]
  rfl
end
end Sw
namespace Sw
open PySem PySem.Spec PyProof.Rows L2
theorem all_eq_of {α : Type} {l : List α} {p q : α → Bool} (h : ∀ x ∈ l, p x = q x) : l.all p = l.all q := by
  induction l with
  | nil => rfl
  | cons x l ih => rw [List.all_cons, List.all_cons, h x List.mem_cons_self, ih fun y hy => h y (List.mem_cons_of_mem _ hy)]
section
variable {P : Program} {w : World} {K : PySem.W.Frag} {mg : Str → Option Value} {base : Heap} {C CM : Addr} {f : Addr} {fd : FuncData}
def mk_getG : List D → Kp390.Call → Prop := fun ds c => ∃ i : Nat, ds = [.int i] ∧ c = .getGuarantee i
theorem scGetG : FnScope ["self", "number"] ["self", "number"] (defScope (inM 21)) := ⟨rfl, rfl, rfl, by decide +kernel, rfl, by decide +kernel, by decide +kernel⟩
theorem ok_qGetG (G : Fun K "get_guarantee" "Monitor.get_guarantee" (inM 21) f fd) (g : PGm P w K mg base C CM) : FnOk P w K mg base CX0 20 f fd ["self", "number"] (spQ K C CM (RQ mk_getG)) := by
  refine ask_def G scGetG (fun m ds d ⟨_, ⟨_, h, _⟩, _⟩ => by rw [h]; rfl) fun cdv A outer s' H E hr a m ds d h => ?_
  obtain ⟨_, ⟨i, rfl, rfl⟩, W, rfl⟩ := h
  have e : (Kp390.step (some m) (.getGuarantee i)).2 = (match m.guarantees[i]? with | none => Kp390.single (-2) | some g => Kp390.natResult g.kind [g.value]) := rfl
  rw [e]
  by_cases hi : i < m.guarantees.length
  · rw [List.getElem?_eq_getElem hi]
    have ha : atI (m.guarantees.map gD) (i : Int) = some (gD m.guarantees[i]) := atI_nat (by rw [List.getElem?_map, List.getElem?_eq_getElem hi]; rfl)
    exact db_one (ds_ret (de_ifeT (dt_is (dt_lt (dv 1) (de_len g.n.len (de_kgs g.T (dv 0)))) (decide_eq_true (by rw [List.length_map]; omega))) (de_of (dn_list (d := gD m.guarantees[i]) g.n.list (de_ixL (de_kgs g.T (dv 0)) (dv 1) ha)))))
  · rw [List.getElem?_eq_none (by omega)]
    exact db_one (ds_ret (de_ifeF (dt_is (dt_lt (dv 1) (de_len g.n.len (de_kgs g.T (dv 0)))) (decide_eq_false (by rw [List.length_map]; omega))) (de_of (dn_lst (da_cons (dg g.n.missing) da_nil)))))
def mk_chkG : List D → Kp390.Call → Prop := fun ds c => ∃ k v : Nat, ds = [.int k, .int v] ∧ c = .checkGuarantee k v
theorem scChkG : FnScope ["self", "kind", "value"] ["self", "kind", "value"] (defScope (inM 22)) := ⟨rfl, rfl, rfl, by decide +kernel, rfl, by decide +kernel, by decide +kernel⟩
theorem ok_qChkG (G : Fun K "check_guarantee" "Monitor.check_guarantee" (inM 22) f fd) (g : PGm P w K mg base C CM) : FnOk P w K mg base CX0 20 f fd ["self", "kind", "value"] (spQ K C CM (RQ mk_chkG)) := by
  refine ask_def G scChkG (fun m ds d ⟨_, ⟨_, _, h, _⟩, _⟩ => by rw [h]; rfl) fun cdv A outer s' H E hr a m ds d h => ?_
  obtain ⟨_, ⟨k, v, rfl, rfl⟩, W, rfl⟩ := h
  have hr1 : Room 1 _ := hr.mono (by decide)
  have hr15 : Room 15 _ := hr.mono (by decide)
  have e : (Kp390.step (some m) (.checkGuarantee k v)).2 = if Kp390.validGuarantee ⟨k, v⟩ then Kp390.boolResult (Kp390.holds m.process ⟨k, v⟩) else Kp390.single (-22) := rfl
  rw [e]
  cases hv : Kp390.validGuarantee ⟨k, v⟩ with
  | true => exact db_one (ds_ret (de_ifeT (dt_is (dt_val (de_call g.isg hr1 (da_cons (dv 1) (da_cons (dv 2) da_nil)) ⟨k, v, rfl, rfl⟩)) hv) (de_of (dn_lst (da_cons (de_intb g.n.int (de_call g.holds hr15 (da_cons (de_kproc g.T (dv 0)) (da_cons (de_tup (da_cons (dv 1) (da_cons (dv 2) da_nil))) da_nil)) ⟨_, ⟨k, v⟩, rfl, W.pw, rfl⟩)) da_nil)))))
  | false => exact db_one (ds_ret (de_ifeF (dt_is (dt_val (de_call g.isg hr1 (da_cons (dv 1) (da_cons (dv 2) da_nil)) ⟨k, v, rfl, rfl⟩)) hv) (de_of (dn_lst (da_cons (dg g.n.outside) da_nil)))))
def mk_least : List D → Kp390.Call → Prop := fun ds c => ds = [] ∧ c = .leastRegretBound
theorem scLst : FnScope ["self"] ["self"] (defScope (inM 23)) := ⟨rfl, rfl, rfl, by decide +kernel, rfl, by decide +kernel, by decide +kernel⟩
theorem ok_qLeast (G : Fun K "least_regret_bound" "Monitor.least_regret_bound" (inM 23) f fd) (g : PGm P w K mg base C CM) : FnOk P w K mg base CX0 20 f fd ["self"] (spQ K C CM (RQ mk_least)) := by
  refine ask_def G scLst (fun m ds d ⟨_, ⟨h, _⟩, _⟩ => by rw [h]; rfl) fun cdv A outer s' H E hr a m ds d h => ?_
  obtain ⟨_, ⟨rfl, rfl⟩, W, rfl⟩ := h
  have hr14 : Room 14 _ := hr.mono (by decide)
  exact db_one (ds_ret (de_of (dn_lst (da_cons (de_call g.least hr14 (da_cons (de_kproc g.T (dv 0)) da_nil) ⟨_, rfl, W.pw, rfl⟩) da_nil))))
/-! episodes -/
def codeI (m : Kp390.Monitor) (t s : Nat) (l : List Nat) : Int := match Kp390.episodeError m t s l with
  | none => 0
  | some c => c
def RErr : Kp390.Monitor → List D → D → Prop := fun m ds d => ∃ (t s : Nat) (l : List Nat), ds = [.int t, .int s, natD l] ∧ l.length ≤ 1000 ∧ d = .int (codeI m t s l)
theorem scErr : FnScope ["self", "table", "state", "randoms"] ["self", "table", "state", "randoms"] (defScope (inM 24)) := ⟨rfl, rfl, rfl, by decide +kernel, rfl, by decide +kernel, by decide +kernel⟩
theorem valid_eq (l : List Nat) (k : Nat) : ((l.map fun (x : Nat) => (x : Int)).all fun x => decide (-(k : Int) ≤ x) && decide (x ≤ (k : Int))) = l.all fun x => decide (x ≤ k) := by
  rw [List.all_map]
  refine all_eq_of fun x _ => ?_
  simp only [Function.comp]
  rw [show decide (-(k : Int) ≤ (x : Int)) = true from decide_eq_true (by omega), Bool.true_and]
  exact decide_eq_decide.mpr (by omega)
theorem ok_qErr (G : Fun K "episode_error" "Monitor.episode_error" (inM 24) f fd) (g : PGm P w K mg base C CM) (gS : MetC P w K mg base 1 CM "has_state" (spQ K C CM RhasS)) : FnOk P w K mg base CX0 20 f fd ["self", "table", "state", "randoms"] (spQ K C CM RErr) := by
  refine ask_def G scErr (fun m ds d ⟨_, _, _, h, _⟩ => by rw [h]; rfl) fun cdv A outer s' H E hr a m ds d h => ?_
  obtain ⟨t, s, l, rfl, hl, rfl⟩ := h
  have hr1 : Room 1 _ := hr.mono (by decide)
  have hr1' : Room 1 _ := hr.mono (by decide)
  have nf : NoM "has_state" := by unfold NoM; decide +kernel
  unfold codeI Kp390.episodeError
  by_cases c : 1 < t ∨ m.process.stateCount ≤ s
  · rw [if_pos c]
    refine db_ifT (dt_is (dw_t (dw_or (dt_ge (dv 1) (dg g.n.tables)) fun _ => dw_or1 (dt_not (dt_val (de_kask gS hr1 g.T nf (dv 0) (da_cons (dv 2) da_nil) ⟨s, rfl, rfl⟩))))) ?_) (db_one (ds_ret (dg g.n.missing)))
    rcases c with c | c
    · rw [decide_eq_true (show (2 : Int) ≤ (t : Int) by omega)]; rfl
    · rw [decide_eq_false (show ¬ s < m.process.stateCount by omega)]; simp
  · rw [if_neg c]
    refine db_ifF (dt_is (dw_t (dw_or (dt_ge (dv 1) (dg g.n.tables)) fun _ => dw_or1 (dt_not (dt_val (de_kask gS hr1 g.T nf (dv 0) (da_cons (dv 2) da_nil) ⟨s, rfl, rfl⟩))))) ?_) ?_
    · rw [decide_eq_false (show ¬ (2 : Int) ≤ (t : Int) by omega), decide_eq_true (show s < m.process.stateCount by omega)]; rfl
    · have hw := valid_eq l 999
      have ll : ((l.map fun (x : Nat) => (x : Int)).map D.int).length = l.length := by rw [List.length_map, List.length_map]
      have tst : ((decide ((6 : Int) < ((((l.map fun (x : Nat) => (x : Int)).map D.int).length : Nat) : Int))) || !((l.map fun (x : Nat) => (x : Int)).all fun x => decide (-(999 : Int) ≤ x) && decide (x ≤ 999))) = !Kp390.validRandoms l := by
        unfold Kp390.validRandoms
        rw [Bool.not_and, ← hw, ll]
        congr 1
        rw [← decide_not]
        exact decide_eq_decide.mpr (by omega)
      cases hv : Kp390.validRandoms l with
      | true =>
        rw [if_neg (by decide)]
        exact db_one (ds_ret (de_ifeF (dt_is (dw_t (dw_or (dt_gt (de_len g.n.len (dv 3)) (dg g.n.msteps)) fun _ => dw_or1 (dt_not (dt_val (de_call g.within hr1 (da_cons (dv 3) (da_cons (dg g.n.mrandom) da_nil)) ⟨_, _, rfl, by rw [List.length_map]; exact hl, rfl⟩))))) (by rw [tst, hv]; rfl)) de_int))
      | false =>
        rw [if_pos rfl]
        exact db_one (ds_ret (de_ifeT (dt_is (dw_t (dw_or (dt_gt (de_len g.n.len (dv 3)) (dg g.n.msteps)) fun _ => dw_or1 (dt_not (dt_val (de_call g.within hr1 (da_cons (dv 3) (da_cons (dg g.n.mrandom) da_nil)) ⟨_, _, rfl, by rw [List.length_map]; exact hl, rfl⟩))))) (by rw [tst, hv]; rfl)) (dg g.n.outside)))
/-- no error: what then holds -/
theorem err_none {m : Kp390.Monitor} {t s : Nat} {l : List Nat} (h : Kp390.episodeError m t s l = none) : t ≤ 1 ∧ s < m.process.stateCount ∧ (∀ x ∈ l, x ≤ 999) ∧ l.length ≤ 6 := by
  unfold Kp390.episodeError at h
  by_cases c : 1 < t ∨ m.process.stateCount ≤ s
  · rw [if_pos c] at h; cases h
  · rw [if_neg c] at h
    cases hv : Kp390.validRandoms l with
    | false => rw [hv, if_pos rfl] at h; cases h
    | true =>
      unfold Kp390.validRandoms at hv
      rw [Bool.and_eq_true] at hv
      refine ⟨by omega, by omega, fun x hx => ?_, of_decide_eq_true hv.1⟩
      exact of_decide_eq_true (List.all_eq_true.mp hv.2 x hx)
theorem err_some {m : Kp390.Monitor} {t s : Nat} {l : List Nat} {c : Int} (h : Kp390.episodeError m t s l = some c) : c ≠ 0 := by
  unfold Kp390.episodeError at h
  split at h
  · cases h; decide
  · split at h
    · cases h; decide
    · cases h
theorem outEp (e : Kp390.Episode) : outA (Kp390.episodeResult e) = intD (epN e) := rfl
def mk_prev : List D → Kp390.Call → Prop := fun ds c => ∃ (t s : Nat) (l : List Nat), ds = [.int t, .int s, natD l] ∧ l.length ≤ 1000 ∧ c = .previewEpisode t s l
theorem scPrev : FnScope ["self", "table", "state", "randoms", "code"] ["self", "table", "state", "randoms"] (defScope (inM 26)) := ⟨rfl, rfl, rfl, by decide +kernel, rfl, by decide +kernel, by decide +kernel⟩
theorem nfErr : NoM "episode_error" := by unfold NoM; decide +kernel
theorem ok_qPrev (G : Fun K "preview_episode" "Monitor.preview_episode" (inM 26) f fd) (g : PGm P w K mg base C CM) (gE : MetC P w K mg base 20 CM "episode_error" (spQ K C CM RErr)) : FnOk P w K mg base CX0 22 f fd ["self", "table", "state", "randoms"] (spQ K C CM (RQ mk_prev)) := by
  refine ask_def G scPrev (fun m ds d ⟨_, ⟨_, _, _, h, _⟩, _⟩ => by rw [h]; rfl) fun cdv A outer s' H E hr a m ds d h => ?_
  obtain ⟨_, ⟨t, s, l, rfl, hl, rfl⟩, W, rfl⟩ := h
  have hr2 : Room 2 _ := hr.mono (by decide)
  have hr14 : Room 14 _ := hr.mono (by decide)
  have hr20 : Room 20 _ := hr.mono (by decide)
  have e : (Kp390.step (some m) (.previewEpisode t s l)).2 = (match Kp390.episodeError m t s l with | some code => Kp390.single code | none => Kp390.episodeResult (Kp390.episodeOf m.process t s l)) := rfl
  rw [e]
  refine db_cons (ds_set 4 (de_kask gE hr20 g.T nfErr (dv 0) (da_cons (dv 1) (da_cons (dv 2) (da_cons (dv 3) da_nil))) ⟨t, s, l, rfl, hl, rfl⟩) scPrev.nd) ?_
  unfold codeI
  cases hc : Kp390.episodeError m t s l with
  | some code => exact db_one (ds_ret (de_ifeT (dt_is (dt_ne (dv 4) de_int) (by rw [decide_eq_false (err_some hc)]; rfl)) (de_of (dn_lst (da_cons (dv 4) da_nil)))))
  | none =>
    obtain ⟨h1, h2, h3, h4⟩ := err_none hc
    have ok := ep_ok W.pw (t := t) h2 h3 h4
    exact db_one (ds_ret (de_ifeF (dt_is (dt_ne (dv 4) de_int) rfl) (de_call g.epn hr2 (da_cons (de_call g.ep hr14 (da_cons (de_kproc g.T (dv 0)) (da_cons (dv 1) (da_cons (dv 2) (da_cons (dv 3) da_nil)))) ⟨_, t, s, l, rfl, W.pw, h1, h2, h3, h4, rfl⟩) da_nil) ⟨_, rfl, ok.len, rfl⟩)))
def mk_getE : List D → Kp390.Call → Prop := fun ds c => ∃ i : Nat, ds = [.int i] ∧ c = .getEpisode i
theorem scGetE : FnScope ["self", "number"] ["self", "number"] (defScope (inM 27)) := ⟨rfl, rfl, rfl, by decide +kernel, rfl, by decide +kernel, by decide +kernel⟩
theorem ok_qGetE (G : Fun K "get_episode" "Monitor.get_episode" (inM 27) f fd) (g : PGm P w K mg base C CM) : FnOk P w K mg base CX0 20 f fd ["self", "number"] (spQ K C CM (RQ mk_getE)) := by
  refine ask_def G scGetE (fun m ds d ⟨_, ⟨_, h, _⟩, _⟩ => by rw [h]; rfl) fun cdv A outer s' H E hr a m ds d h => ?_
  obtain ⟨_, ⟨i, rfl, rfl⟩, W, rfl⟩ := h
  have hr2 : Room 2 _ := hr.mono (by decide)
  have e : (Kp390.step (some m) (.getEpisode i)).2 = (match m.episodes[i]? with | none => Kp390.single (-2) | some e => Kp390.episodeResult e) := rfl
  rw [e]
  by_cases hi : i < m.episodes.length
  · rw [List.getElem?_eq_getElem hi]
    have ha : atI (m.episodes.map epD) (i : Int) = some (epD m.episodes[i]) := atI_nat (by rw [List.getElem?_map, List.getElem?_eq_getElem hi]; rfl)
    have ok := W.eo _ (List.getElem_mem hi)
    exact db_one (ds_ret (de_ifeT (dt_is (dt_lt (dv 1) (de_len g.n.len (de_kes g.T (dv 0)))) (decide_eq_true (by rw [List.length_map]; omega))) (de_call g.epn hr2 (da_cons (de_ixL (de_kes g.T (dv 0)) (dv 1) ha) da_nil) ⟨_, rfl, ok.len, rfl⟩)))
  · rw [List.getElem?_eq_none (by omega)]
    exact db_one (ds_ret (de_ifeF (dt_is (dt_lt (dv 1) (de_len g.n.len (de_kes g.T (dv 0)))) (decide_eq_false (by rw [List.length_map]; omega))) (de_of (dn_lst (da_cons (dg g.n.missing) da_nil)))))
/-! sums of returns -/
theorem sum_snoc (l : List Rat) (x : Rat) : (l ++ [x]).sum = l.sum + x := by
  induction l with
  | nil => simp only [List.nil_append, List.sum_cons, List.sum_nil]; grind
  | cons y l ih => simp only [List.cons_append, List.sum_cons, ih]; grind
theorem sum_QB : ∀ (l : List Rat), (∀ q ∈ l, QB 50 q) → QB (51 * l.length + 1) l.sum
  | [], _ => ⟨by decide, by decide⟩
  | q :: l, h => by
    rw [List.sum_cons]
    exact ((h q List.mem_cons_self).add (sum_QB l fun x hx => h x (List.mem_cons_of_mem _ hx))).mono (by rw [List.length_cons]; omega)
def mk_total : List D → Kp390.Call → Prop := fun ds c => ds = [] ∧ c = .totalReturns
theorem scTot : FnScope ["self", "one", "other", "episode"] ["self"] (defScope (inM 28)) := ⟨rfl, rfl, rfl, by decide +kernel, rfl, by decide +kernel, by decide +kernel⟩
/-- the module's ZERO -/
def MgZ (K : PySem.W.Frag) (C : Addr) (mg : Str → Option Value) : Prop := ∃ z : Addr, mg "ZERO" = some (.ref z) ∧ ∀ H, Rp K C H (V.ref z) (frD 0)
theorem ok_qTotal (G : Fun K "total_returns" "Monitor.total_returns" (inM 28) f fd) (g : PGm P w K mg base C CM) (gZ : MgZ K C mg) : FnOk P w K mg base CX0 20 f fd ["self"] (spQ K C CM (RQ mk_total)) := by
  refine ask_def G scTot (fun m ds d ⟨_, ⟨h, _⟩, _⟩ => by rw [h]; rfl) fun cdv A outer s' H E hr a m ds d h => ?_
  obtain ⟨_, ⟨rfl, rfl⟩, W, rfl⟩ := h
  have hr1 : Room 1 _ := hr.mono (by decide)
  have hr3 : Room 3 _ := hr.mono (by decide)
  obtain ⟨z, hz1, hz2⟩ := gZ
  have el := W.el
  have q0 : ∀ k, QB 613 (((m.episodes.take k).map Kp390.Episode.return0).sum) := fun k => by
    refine (sum_QB _ fun q hq => ?_).mono (by rw [List.length_map, List.length_take]; omega)
    obtain ⟨e, he, rfl⟩ := List.mem_map.mp hq
    exact (W.eo e (List.mem_of_mem_take he)).q0
  have q1 : ∀ k, QB 613 (((m.episodes.take k).map Kp390.Episode.return1).sum) := fun k => by
    refine (sum_QB _ fun q hq => ?_).mono (by rw [List.length_map, List.length_take]; omega)
    obtain ⟨e, he, rfl⟩ := List.mem_map.mp hq
    exact (W.eo e (List.mem_of_mem_take he)).q1
  refine db_cons (ds_par 1 2 (de_glob (v := V.ref z) (by rfl) hz1 rfl hz2) (de_glob (v := V.ref z) (by rfl) hz1 rfl hz2) scTot.nd) ?_
  refine db_cons (ds_for (ds := m.episodes.map epD) (fun _ => KonF K C CM a m)
    (fun k => [.dat (.raw (.ref a)), .dat (frD (((m.episodes.take k).map Kp390.Episode.return0).sum)), .dat (frD (((m.episodes.take k).map Kp390.Episode.return1).sum)), .un])
    (fun k => [.dat (.raw (.ref a)), .dat (frD (((m.episodes.take k).map Kp390.Episode.return0).sum)), .dat (frD (((m.episodes.take k).map Kp390.Episode.return1).sum)), .dat (epD (m.episodes.getD k ⟨0, [], 0, 0⟩))])
    (fun k => [.dat (.raw (.ref a)), .dat (frD (((m.episodes.take (k + 1)).map Kp390.Episode.return0).sum)), .dat (frD (((m.episodes.take (k + 1)).map Kp390.Episode.return1).sum)), .dat (epD (m.episodes.getD k ⟨0, [], 0, 0⟩))])
    (di_list (de_kes g.T (dv 0))) (fun k d hd => ?_) (fun k d hd => ?_) (fun k hk => .same (.same (.same (.un .nil)))) PassesOwn.never) ?_
  · obtain ⟨_, rfl, _⟩ := map_get (⟨0, [], 0, 0⟩ : Kp390.Episode) hd
    exact dg_name 3 scTot.nd
  · obtain ⟨hk, _, hx⟩ := map_get (⟨0, [], 0, 0⟩ : Kp390.Episode) hd
    have ok := W.eo _ (List.mem_of_getElem? hx)
    have e0 : ((m.episodes.take (k + 1)).map Kp390.Episode.return0).sum = ((m.episodes.take k).map Kp390.Episode.return0).sum + (m.episodes.getD k ⟨0, [], 0, 0⟩).return0 := by rw [take_map_succ hx, sum_snoc]
    have e1 : ((m.episodes.take (k + 1)).map Kp390.Episode.return1).sum = ((m.episodes.take k).map Kp390.Episode.return1).sum + (m.episodes.getD k ⟨0, [], 0, 0⟩).return1 := by rw [take_map_succ hx, sum_snoc]
    rw [e0, e1]
    exact db_one (ds_par 1 2 (de_plus g.plus hr3 (dv 1) (de_ixT (dv 3) de_int) (q0 k) ok.q0 (by decide) (by decide)) (de_plus g.plus hr3 (dv 2) (de_ixT (dv 3) de_int) (q1 k) ok.q1 (by decide) (by decide)) scTot.nd)
  · rw [List.length_map, List.take_length]
    have hz : ([D.int ((((m.episodes.map epD).length : Nat)) : Int)] : List D).length + (([((m.episodes.map Kp390.Episode.return0).sum), ((m.episodes.map Kp390.Episode.return1).sum)].flatMap frN).map D.int).length ≤ 100 := by simp [frN]
    refine db_one (ds_ret (de_is (de_of (dn_cat (de_of (dn_lst (da_cons (de_len g.n.len (de_kes g.T (dv 0))) da_nil))) (de_call g.nums hr1 (da_cons (de_of (dn_lst (da_cons (dv 1) (da_cons (dv 2) da_nil)))) da_nil) ⟨[_, _], rfl, (by show 2 ≤ 1000; decide), rfl⟩) (sz_le hz rfl))) ?_))
    rw [List.length_map]
    show _ = outA ⟨(m.episodes.length : Int), Kp390.fraction _ ++ Kp390.fraction _⟩
    rfl
def mk_corr : List D → Kp390.Call → Prop := fun ds c => ∃ i : Nat, ds = [.int i] ∧ c = .correctedReturn i
theorem scCor : FnScope ["self", "number"] ["self", "number"] (defScope (inM 29)) := ⟨rfl, rfl, rfl, by decide +kernel, rfl, by decide +kernel, by decide +kernel⟩
theorem ok_qCorr (G : Fun K "corrected_return" "Monitor.corrected_return" (inM 29) f fd) (g : PGm P w K mg base C CM) : FnOk P w K mg base CX0 20 f fd ["self", "number"] (spQ K C CM (RQ mk_corr)) := by
  refine ask_def G scCor (fun m ds d ⟨_, ⟨_, h, _⟩, _⟩ => by rw [h]; rfl) fun cdv A outer s' H E hr a m ds d h => ?_
  obtain ⟨_, ⟨i, rfl, rfl⟩, W, rfl⟩ := h
  have hr1 : Room 1 _ := hr.mono (by decide)
  have hr4 : Room 4 _ := hr.mono (by decide)
  have hr5 : Room 5 _ := hr.mono (by decide)
  have e : (Kp390.step (some m) (.correctedReturn i)).2 = (match m.episodes[i]? with | none => Kp390.single (-2) | some e => match Kp390.correctedReturn m.process e with | none => Kp390.single (-33) | some x => Kp390.fractionResult x) := rfl
  rw [e]
  by_cases hi : i < m.episodes.length
  · rw [List.getElem?_eq_getElem hi]
    have ha : atI (m.episodes.map epD) (i : Int) = some (epD m.episodes[i]) := atI_nat (by rw [List.getElem?_map, List.getElem?_eq_getElem hi]; rfl)
    have ok := W.eo _ (List.getElem_mem hi)
    simp only [corr_eq]
    refine db_ifF (dt_is (dt_ge (dv 1) (de_len g.n.len (de_kes g.T (dv 0)))) (decide_eq_false (by rw [List.length_map]; omega))) ?_
    cases he : Kp389.areEquivalent m.process with
    | false => exact db_ifT (dt_is (dt_not (dt_val (de_call g.equiv hr4 (da_cons (de_kproc g.T (dv 0)) da_nil) ⟨_, rfl, W.pw, rfl⟩))) (by rw [he]; rfl)) (db_one (ds_ret (de_of (dn_lst (da_cons (dg g.n.notThere) da_nil)))))
    | true =>
      have hz : ([D.int 0] : List D).length + (([corrQ m.process m.episodes[i]].flatMap frN).map D.int).length ≤ 100 := by simp [frN]
      exact db_ifF (dt_is (dt_not (dt_val (de_call g.equiv hr4 (da_cons (de_kproc g.T (dv 0)) da_nil) ⟨_, rfl, W.pw, rfl⟩))) (by rw [he]; rfl)) (db_one (ds_ret (de_of (dn_cat (de_of (dn_lst (da_cons de_int da_nil))) (de_call g.nums hr1 (da_cons (de_of (dn_lst (da_cons (de_call g.corr hr5 (da_cons (de_kproc g.T (dv 0)) (da_cons (de_ixL (de_kes g.T (dv 0)) (dv 1) ha) da_nil)) ⟨_, _, rfl, W.pw, ok, rfl⟩) da_nil))) da_nil) ⟨[_], rfl, (by show 1 ≤ 1000; decide), rfl⟩) (sz_le hz rfl)))))
  · rw [List.getElem?_eq_none (by omega)]
    exact db_ifT (dt_is (dt_ge (dv 1) (de_len g.n.len (de_kes g.T (dv 0)))) (decide_eq_true (by rw [List.length_map]; omega))) (db_one (ds_ret (de_of (dn_lst (da_cons (dg g.n.missing) da_nil)))))
def mk_status : List D → Kp390.Call → Prop := fun ds c => ds = [] ∧ c = .status
theorem scSta : FnScope ["self"] ["self"] (defScope (inM 30)) := ⟨rfl, rfl, rfl, by decide +kernel, rfl, by decide +kernel, by decide +kernel⟩
theorem ok_qStatus (G : Fun K "status" "Monitor.status" (inM 30) f fd) (g : PGm P w K mg base C CM) : FnOk P w K mg base CX0 20 f fd ["self"] (spQ K C CM (RQ mk_status)) := by
  refine ask_def G scSta (fun m ds d ⟨_, ⟨h, _⟩, _⟩ => by rw [h]; rfl) fun cdv A outer s' H E hr a m ds d h => ?_
  obtain ⟨_, ⟨rfl, rfl⟩, W, rfl⟩ := h
  have T := g.g.T
  refine db_one (ds_ret (de_is (de_of (dn_lst (da_cons de_int (da_cons (de_fld pf_states T.cl T.n1 (de_kproc g.T (dv 0))) (da_cons (de_fld pf_actions T.cl T.n2 (de_kproc g.T (dv 0))) (da_cons (de_len g.n.len (de_kgs g.T (dv 0))) (da_cons (de_len g.n.len (de_kes g.T (dv 0))) da_nil))))))) ?_))
  rw [List.length_map, List.length_map]
  rfl
end
end Sw
namespace Sw
open PySem PySem.Spec PyProof.Rows L2
/-! ### changes, plainly -/
theorem chg_ok {m : Kp390.Monitor} {c : Kp389.Call} {p' : Kp389.Process} {r : Kp389.Ans} (h : Kp389.step (some m.process) c = (some p', r)) (hr : 0 ≤ r.num) :
    Kp390.changeProcess m c = if m.guarantees.all (Kp390.holds p') then (some { m with process := p' }, ⟨r.num, r.nums⟩) else (some m, Kp390.single (-30)) := by
  unfold Kp390.changeProcess
  rw [h]
  simp only []
  rw [if_neg (by omega)]
  rfl
theorem chg_err {m : Kp390.Monitor} {c : Kp389.Call} {s : Kp389.State} {r : Kp389.Ans} (h : Kp389.step (some m.process) c = (s, r)) (hr : r.num < 0) : Kp390.changeProcess m c = (some m, ⟨r.num, r.nums⟩) := by
  unfold Kp390.changeProcess
  rw [h]
  simp only []
  rw [if_pos hr]
theorem pwf_rew {p : Kp389.Process} (W : PWf p) {t : Nat} {l : List Int} (hl : l.length = p.stateCount * p.actionCount * p.stateCount) (hb : ∀ x ∈ l, -100000 ≤ x ∧ x ≤ 100000) : PWf (Kp389.withRewards p t l) := by
  unfold Kp389.withRewards
  split
  · exact ⟨W.n2, W.n4, W.m1, W.m3, W.g1, W.gh, W.h10, hl, W.l1, hb, W.b1, W.tl, W.tw⟩
  · exact ⟨W.n2, W.n4, W.m1, W.m3, W.g1, W.gh, W.h10, W.l0, hl, W.b0, hb, W.tl, W.tw⟩
theorem pwf_tr {p : Kp389.Process} (W : PWf p) {tr : List (List Nat)} (hl : tr.length = p.stateCount * p.actionCount) (hb : ∀ r ∈ tr, r.length = p.stateCount ∧ (∀ x ∈ r, x ≤ 9) ∧ 0 < r.sum) : PWf { p with transitions := tr } :=
  ⟨W.n2, W.n4, W.m1, W.m3, W.g1, W.gh, W.h10, W.l0, W.l1, W.b0, W.b1, hl, hb⟩
theorem set_cut {α : Type} (l : List α) {k : Nat} (v : α) (h : k < l.length) : l.take k ++ [v] ++ l.drop (k + 1) = l.set k v := by
  rw [List.set_eq_take_append_cons_drop, if_pos h]
  simp
/-- what a change answers, and what is then -/
def chgD (m : Kp390.Monitor) (p' : Kp389.Process) (ns : List Int) : D := if m.guarantees.all (Kp390.holds p') then intD ns else intD [-30]
def chgM (m : Kp390.Monitor) (p' : Kp389.Process) : Kp390.Monitor := if m.guarantees.all (Kp390.holds p') then { m with process := p' } else m
def Rchg : Kp390.Monitor → List D → D → Kp390.Monitor → Prop := fun m ds d m' => ∃ p' ns, ds = [.proc p', intD ns] ∧ PWf p' ∧ d = chgD m p' ns ∧ m' = chgM m p'
theorem chg_out {m : Kp390.Monitor} {c : Kp389.Call} {p' : Kp389.Process} {r : Kp389.Ans} (h : Kp389.step (some m.process) c = (some p', r)) (hr : 0 ≤ r.num) :
    outA (Kp390.changeProcess m c).2 = chgD m p' (r.num :: r.nums) ∧ (Kp390.changeProcess m c).1 = some (chgM m p') := by
  rw [chg_ok h hr]
  unfold chgD chgM
  split <;> exact ⟨rfl, rfl⟩
theorem err_out {m : Kp390.Monitor} {c : Kp389.Call} {s : Kp389.State} {n : Int} (h : Kp389.step (some m.process) c = (s, Kp389.single n)) (hr : n < 0) :
    outA (Kp390.changeProcess m c).2 = intD [n] ∧ (Kp390.changeProcess m c).1 = some m := by
  rw [chg_err h hr]
  exact ⟨rfl, rfl⟩
theorem step_setR (p : Kp389.Process) (t s a q : Nat) (l : List Int) : Kp389.step (some p) (.setReward t s a q l) = if (Kp389.isTable t && Kp389.isState p s && Kp389.isAction p a && Kp389.isState p q) = false then (some p, Kp389.single (-2)) else (match l with
    | [v] => if Kp389.validReward v then (some (Kp389.withRewards p t ((Kp389.rewards p t).set (Kp389.index p s a q) v)), Kp389.signedResult (Kp389.reward p t s a q)) else (some p, Kp389.single (-22))
    | _ => (some p, Kp389.single (-22))) := by
  match l with
  | [] => rfl
  | [v] => rfl
  | _ :: _ :: _ => rfl
theorem cond4 (p : Kp389.Process) (t s a q : Nat) : (decide ((2 : Int) ≤ (t : Int)) || (!decide (s < p.stateCount) || (!decide (a < p.actionCount) || !decide (q < p.stateCount)))) = !(Kp389.isTable t && Kp389.isState p s && Kp389.isAction p a && Kp389.isState p q) := by
  unfold Kp389.isTable Kp389.isState Kp389.isAction
  have : decide ((2 : Int) ≤ (t : Int)) = !decide (t ≤ 1) := by rw [← decide_not]; exact decide_eq_decide.mpr (by omega)
  rw [this]
  simp only [Bool.not_and, Bool.or_assoc]
/-- one valid reward -/
def okL1 (l : List Int) : Bool := decide (l.length = 1) && l.all fun x => decide (-1000 ≤ x) && decide (x ≤ 1000)
theorem condL1 (l : List Int) : ((!decide ((((l.map D.int).length : Nat) : Int) = 1)) || !(l.all fun x => decide (-(1000 : Int) ≤ x) && decide (x ≤ 1000))) = !okL1 l := by
  unfold okL1
  rw [Bool.not_and, List.length_map]
  congr 2
  exact decide_eq_decide.mpr (by omega)
theorem okL1_ex {l : List Int} (h : okL1 l = true) : ∃ v, l = [v] ∧ -1000 ≤ v ∧ v ≤ 1000 := by
  unfold okL1 at h
  match l, h with
  | [v], h => 
    simp at h
    exact ⟨v, rfl, h.1, h.2⟩
  | [], h => simp at h
  | _ :: _ :: _, h => simp at h
theorem errL1 {S : Type} (l : List Int) {x : Int → S} {y : S} : okL1 l = false → (match l with
    | [v] => if Kp389.validReward v then x v else y
    | _ => y) = y := by
  intro h
  match l, h with
  | [v], h =>
    have : Kp389.validReward v = false := by
      unfold okL1 at h
      unfold Kp389.validReward
      simpa using h
    simp only [this]
    rfl
  | [], h => rfl
  | _ :: _ :: _, h => rfl
section
variable {P : Program} {w : World} {K : PySem.W.Frag} {mg : Str → Option Value} {base : Heap} {C CM : Addr} {f : Addr} {fd : FuncData}
theorem scChg : FnScope ["self", "process", "told"] ["self", "process", "told"] (defScope (inM 1)) := ⟨rfl, rfl, rfl, by decide +kernel, rfl, by decide +kernel, by decide +kernel⟩
theorem ok_changed (G : Fun K "changed" "Monitor.changed" (inM 1) f fd) (g : PGm P w K mg base C CM) : FnOk P w K mg base CX0 20 f fd ["self", "process", "told"] (spM K C CM Rchg) := by
  refine deed_def G scChg (fun m ds d m' ⟨_, _, h, _⟩ => by rw [h]; rfl) fun cdv A outer s' H E hr a gg e m ds d m' h => ?_
  obtain ⟨p', ns, rfl, W, rfl, rfl⟩ := h
  have hr16 : Room 16 _ := hr.mono (by decide)
  unfold chgD chgM
  cases hh : m.guarantees.all (Kp390.holds p') with
  | false =>
    rw [if_neg (by decide), if_neg (by decide)]
    exact db_ifT (dt_is (dt_not (dt_val (de_callG g.allh hr16 (dv 1) (de_mgs g.T (dv 0)) ⟨p', m.guarantees, rfl, W, rfl⟩))) (by rw [hh]; rfl)) (db_one (ds_ret (de_of (dn_lst (da_cons (dg g.n.violated) da_nil)))))
  | true =>
    rw [if_pos rfl, if_pos rfl]
    exact db_ifF (dt_is (dt_not (dt_val (de_callG g.allh hr16 (dv 1) (de_mgs g.T (dv 0)) ⟨p', m.guarantees, rfl, W, rfl⟩))) (by rw [hh]; rfl)) (db_cons (ds_setP g.T (dv 0) (dv 1)) (db_one (ds_ret (dv 2))))
theorem nfChanged : NoM "changed" := by unfold NoM; decide +kernel
theorem nfHasS : NoM "has_state" := by unfold NoM; decide +kernel
theorem nfHasA : NoM "has_action" := by unfold NoM; decide +kernel
theorem nfWtab : NoF "with_table" := by unfold NoF; decide +kernel
theorem nfWwei : NoF "with_weights" := by unfold NoF; decide +kernel
theorem nfPlace : NoF "place" := by unfold NoF; decide +kernel
theorem nfCount : NoF "reward_count" := by unfold NoF; decide +kernel
/-- the methods that the deeds call -/
structure PGd (P : Program) (w : World) (K : PySem.W.Frag) (mg : Str → Option Value) (base : Heap) (C CM : Addr) : Prop where
  m : PGm P w K mg base C CM
  changed : MetC P w K mg base 20 CM "changed" (spM K C CM Rchg)
  hasS : MetC P w K mg base 1 CM "has_state" (spQ K C CM RhasS)
  hasA : MetC P w K mg base 1 CM "has_action" (spQ K C CM RhasA)
def mk_setR : List D → Kp390.Call → Prop := fun ds c => ∃ (t s a q : Nat) (l : List Int), ds = [.int t, .int s, .int a, .int q, intD l] ∧ l.length ≤ 1000 ∧ c = .setReward t s a q l
abbrev nSetR : List Str := ["self", "table", "state", "action", "later", "value", "place", "rewards", "fresh"]
theorem scSetR : FnScope nSetR ["self", "table", "state", "action", "later", "value"] (defScope (inM 4)) := ⟨rfl, rfl, rfl, by decide +kernel, rfl, by decide +kernel, by decide +kernel⟩
theorem ok_setR (G : Fun K "set_reward" "Monitor.set_reward" (inM 4) f fd) (gd : PGd P w K mg base C CM) : FnOk P w K mg base CX0 22 f fd ["self", "table", "state", "action", "later", "value"] (spM K C CM (RD mk_setR)) := by
  refine deed_def G scSetR (fun m ds d m' ⟨_, ⟨_, _, _, _, _, h, _⟩, _⟩ => by rw [h]; rfl) fun cdv A outer s' H E hr a0 gg e m ds d m' h => ?_
  obtain ⟨_, ⟨t, s, a, q, l, rfl, hl, rfl⟩, W, rfl, hm'⟩ := h
  have g := gd.m
  have T := g.g.T
  have hr1 : Room 1 _ := hr.mono (by decide)
  have hr3 : Room 3 _ := hr.mono (by decide)
  have hr20 : Room 20 _ := hr.mono (by decide)
  have e0 : Kp390.step (some m) (.setReward t s a q l) = Kp390.changeProcess m (.setReward t s a q l) := rfl
  rw [e0] at hm' ⊢
  have s0 := step_setR m.process t s a q l
  have b1 := cond4 m.process t s a q
  cases hb : (Kp389.isTable t && Kp389.isState m.process s && Kp389.isAction m.process a && Kp389.isState m.process q) with
  | false =>
    rw [hb] at s0 b1
    rw [if_pos rfl] at s0
    obtain ⟨x1, x2⟩ := err_out s0 (by decide)
    rw [x2] at hm'
    cases hm'
    rw [x1]
    exact db_ifT (dt_is (dw_t (dw_or (dt_ge (dv 1) (dg g.n.tables)) fun _ => dw_or (dt_not (dt_val (de_ask gd.hasS hr1 g.T nfHasS (dv 0) (da_cons (dv 2) da_nil) ⟨s, rfl, rfl⟩ (.bl _)))) fun _ => dw_or (dt_not (dt_val (de_ask gd.hasA hr1 g.T nfHasA (dv 0) (da_cons (dv 3) da_nil) ⟨a, rfl, rfl⟩ (.bl _)))) fun _ => dw_or1 (dt_not (dt_val (de_ask gd.hasS hr1 g.T nfHasS (dv 0) (da_cons (dv 4) da_nil) ⟨q, rfl, rfl⟩ (.bl _)))))) b1) (db_one (ds_ret (de_of (dn_lst (da_cons (dg g.n.missing) da_nil)))))
  | true =>
    rw [hb] at s0 b1
    rw [if_neg (by decide)] at s0
    refine db_ifF (dt_is (dw_t (dw_or (dt_ge (dv 1) (dg g.n.tables)) fun _ => dw_or (dt_not (dt_val (de_ask gd.hasS hr1 g.T nfHasS (dv 0) (da_cons (dv 2) da_nil) ⟨s, rfl, rfl⟩ (.bl _)))) fun _ => dw_or (dt_not (dt_val (de_ask gd.hasA hr1 g.T nfHasA (dv 0) (da_cons (dv 3) da_nil) ⟨a, rfl, rfl⟩ (.bl _)))) fun _ => dw_or1 (dt_not (dt_val (de_ask gd.hasS hr1 g.T nfHasS (dv 0) (da_cons (dv 4) da_nil) ⟨q, rfl, rfl⟩ (.bl _)))))) b1) ?_
    simp only [Bool.and_eq_true, Kp389.isTable, Kp389.isState, Kp389.isAction, decide_eq_true_eq] at hb
    obtain ⟨⟨⟨ht, hs⟩, ha⟩, hq⟩ := hb
    have b2 := condL1 l
    cases hv : okL1 l with
    | false =>
      rw [hv] at b2
      have s0 := s0.trans (errL1 l hv)
      obtain ⟨x1, x2⟩ := err_out s0 (by decide)
      rw [x2] at hm'
      cases hm'
      rw [x1]
      exact db_ifT (dt_is (dw_t (dw_or (dt_ne (de_len g.n.len (dv 5)) de_int) fun _ => dw_or1 (dt_not (dt_val (de_call g.within hr1 (da_cons (dv 5) (da_cons (dg g.n.mreward) da_nil)) ⟨_, _, rfl, hl, rfl⟩))))) b2) (db_one (ds_ret (de_of (dn_lst (da_cons (dg g.n.outside) da_nil)))))
    | true =>
      rw [hv] at b2
      refine db_ifF (dt_is (dw_t (dw_or (dt_ne (de_len g.n.len (dv 5)) de_int) fun _ => dw_or1 (dt_not (dt_val (de_call g.within hr1 (da_cons (dv 5) (da_cons (dg g.n.mreward) da_nil)) ⟨_, _, rfl, hl, rfl⟩))))) b2) ?_
      obtain ⟨v, rfl, hv1, hv2⟩ := okL1_ex hv
      have hvv : Kp389.validReward v = true := by unfold Kp389.validReward; rw [decide_eq_true hv1, decide_eq_true hv2]; rfl
      simp only [] at s0
      rw [if_pos hvv] at s0
      obtain ⟨x1, x2⟩ := chg_out s0 (by show (0 : Int) ≤ 0; decide)
      rw [x2] at hm'
      cases hm'
      rw [x1]
      have hix := idx_lt hs ha hq
      have rl := W.pw.rlen t
      have hk : Kp389.index m.process s a q < (Kp389.rewards m.process t).length := by rw [rl]; exact hix
      have hk1 : (((Kp389.index m.process s a q : Nat) : Int) + 1) = ((Kp389.index m.process s a q + 1 : Nat) : Int) := by omega
      have hb48 : m.process.stateCount * m.process.actionCount * m.process.stateCount ≤ 48 := W.pw.nmn
      refine db_cons (ds_set 6 (de_meth g.place hr1 T.cl nfPlace (de_mproc g.T (dv 0)) (da_cons (dv 2) (da_cons (dv 3) (da_cons (dv 4) da_nil))) ⟨_, s, a, q, rfl, W.pw, rfl⟩) scSetR.nd) ?_
      refine db_cons (ds_set 7 (de_ixL (de_fld pf_tables T.cl T.n5 (de_mproc g.T (dv 0))) (dv 1) (tab_at ht)) scSetR.nd) ?_
      have c1 : cutD ((Kp389.rewards m.process t).map D.int) none (some ((Kp389.index m.process s a q : Nat) : Int)) = ((Kp389.rewards m.process t).take (Kp389.index m.process s a q)).map D.int := by rw [cut_to _ (by rw [List.length_map]; omega), List.map_take]
      have c2 : cutD ((Kp389.rewards m.process t).map D.int) (some (((Kp389.index m.process s a q : Nat) : Int) + 1)) none = ((Kp389.rewards m.process t).drop (Kp389.index m.process s a q + 1)).map D.int := by rw [hk1, cut_from _ (by rw [List.length_map]; omega), List.map_drop]
      have z1 : (((Kp389.rewards m.process t).take (Kp389.index m.process s a q)).map D.int).length + ([v].map D.int).length ≤ 100 := by simp only [List.length_map, List.length_take, List.length_cons, List.length_nil]; omega
      have z2 : (((Kp389.rewards m.process t).take (Kp389.index m.process s a q)).map D.int ++ [v].map D.int).length + (((Kp389.rewards m.process t).drop (Kp389.index m.process s a q + 1)).map D.int).length ≤ 200 := by simp only [List.length_map, List.length_take, List.length_append, List.length_drop, List.length_cons, List.length_nil]; omega
      refine db_cons (ds_set 8 (d := intD ((Kp389.rewards m.process t).set (Kp389.index m.process s a q) v)) (de_is (de_of (dn_cat (de_of (dn_cat (de_of (dn_is (dn_slL (dv 7) do_none (do_some (dv 6))) c1)) (dv 5) (sz_le z1 rfl))) (de_of (dn_is (dn_slL (dv 7) (do_some (de_add (dv 6) de_int)) do_none) c2)) (sz_le z2 rfl))) ?_) scSetR.nd) ?_
      · unfold intD
        rw [← set_cut _ v hk]
        simp only [List.map_append]
      · have pw' : PWf (Kp389.withRewards m.process t ((Kp389.rewards m.process t).set (Kp389.index m.process s a q) v)) := pwf_rew W.pw (by rw [List.length_set, rl]) fun x hx => by
          rcases List.mem_or_eq_of_mem_set hx with hx | rfl
          · exact W.pw.rbd t x hx
          · omega
        exact db_one (ds_retM (dm_deed gd.changed hr20 g.T nfChanged (dv 0) (da_cons (de_meth g.wtab hr3 T.cl nfWtab (de_mproc g.T (dv 0)) (da_cons (dv 1) (da_cons (dv 8) da_nil)) ⟨_, t, _, rfl, ht, rfl⟩) (da_cons (de_of (dn_lst (da_cons de_int (da_cons (de_ixL (dv 7) (dv 6) (int_at (W.pw.rget t hs ha hq))) da_nil)))) da_nil)) ⟨_, [0, Kp389.reward m.process t s a q], rfl, pw', rfl, rfl⟩))
end
end Sw
namespace Sw
open PySem PySem.Spec PyProof.Rows L2
theorem condT (t : Nat) : decide ((2 : Int) ≤ (t : Int)) = !Kp389.isTable t := by
  unfold Kp389.isTable
  rw [← decide_not]; exact decide_eq_decide.mpr (by omega)
theorem valid1000 (l : List Int) : (l.all fun x => decide (-(1000 : Int) ≤ x) && decide (x ≤ 1000)) = l.all Kp389.validReward := rfl
theorem condRew (l : List Int) (n : Nat) : ((!decide ((((l.map D.int).length : Nat) : Int) = ((n : Nat) : Int))) || !(l.all fun x => decide (-(1000 : Int) ≤ x) && decide (x ≤ 1000))) = !(decide (l.length = n) && l.all Kp389.validReward) := by
  rw [Bool.not_and, List.length_map, valid1000]
  congr 2
  exact decide_eq_decide.mpr (by omega)
theorem step_setRs (p : Kp389.Process) (t : Nat) (l : List Int) : Kp389.step (some p) (.setRewards t l) = if Kp389.isTable t = false then (some p, Kp389.single (-2)) else if l.length ≠ Kp389.rewardCount p ∨ l.all Kp389.validReward = false then (some p, Kp389.single (-22)) else (some (Kp389.withRewards p t l), Kp389.single 0) := rfl
theorem bad_iff {l : List Int} {n : Nat} : (l.length ≠ n ∨ l.all Kp389.validReward = false) ↔ (decide (l.length = n) && l.all Kp389.validReward) = false := by
  rw [Bool.and_eq_false_iff, decide_eq_false_iff_not]
theorem valid_bd {l : List Int} (h : l.all Kp389.validReward = true) : ∀ x ∈ l, -1000 ≤ x ∧ x ≤ 1000 := fun x hx => by
  have := List.all_eq_true.mp h x hx
  unfold Kp389.validReward at this
  simpa using this
section
variable {P : Program} {w : World} {K : PySem.W.Frag} {mg : Str → Option Value} {base : Heap} {C CM : Addr} {f : Addr} {fd : FuncData}
def mk_setRs : List D → Kp390.Call → Prop := fun ds c => ∃ (t : Nat) (l : List Int), ds = [.int t, intD l] ∧ l.length ≤ 1000 ∧ c = .setRewards t l
theorem scSetRs : FnScope ["self", "table", "values"] ["self", "table", "values"] (defScope (inM 5)) := ⟨rfl, rfl, rfl, by decide +kernel, rfl, by decide +kernel, by decide +kernel⟩
theorem ok_setRs (G : Fun K "set_rewards" "Monitor.set_rewards" (inM 5) f fd) (gd : PGd P w K mg base C CM) : FnOk P w K mg base CX0 22 f fd ["self", "table", "values"] (spM K C CM (RD mk_setRs)) := by
  refine deed_def G scSetRs (fun m ds d m' ⟨_, ⟨_, _, h, _⟩, _⟩ => by rw [h]; rfl) fun cdv A outer s' H E hr a0 gg e m ds d m' h => ?_
  obtain ⟨_, ⟨t, l, rfl, hl, rfl⟩, W, rfl, hm'⟩ := h
  have g := gd.m
  have T := g.g.T
  have hr1 : Room 1 _ := hr.mono (by decide)
  have hr3 : Room 3 _ := hr.mono (by decide)
  have hr20 : Room 20 _ := hr.mono (by decide)
  have e0 : Kp390.step (some m) (.setRewards t l) = Kp390.changeProcess m (.setRewards t l) := rfl
  rw [e0] at hm' ⊢
  have s0 := step_setRs m.process t l
  have b1 := condT t
  cases hb : Kp389.isTable t with
  | false =>
    rw [hb] at s0 b1
    rw [if_pos rfl] at s0
    obtain ⟨x1, x2⟩ := err_out s0 (by decide)
    rw [x2] at hm'
    cases hm'
    rw [x1]
    exact db_ifT (dt_is (dt_ge (dv 1) (dg g.n.tables)) b1) (db_one (ds_ret (de_of (dn_lst (da_cons (dg g.n.missing) da_nil)))))
  | true =>
    rw [hb] at s0 b1
    rw [if_neg (by decide)] at s0
    refine db_ifF (dt_is (dt_ge (dv 1) (dg g.n.tables)) b1) ?_
    have ht : t ≤ 1 := of_decide_eq_true hb
    have b2 := condRew l (Kp389.rewardCount m.process)
    cases hv : (decide (l.length = Kp389.rewardCount m.process) && l.all Kp389.validReward) with
    | false =>
      rw [hv] at b2
      rw [if_pos (bad_iff.mpr hv)] at s0
      obtain ⟨x1, x2⟩ := err_out s0 (by decide)
      rw [x2] at hm'
      cases hm'
      rw [x1]
      exact db_ifT (dt_is (dw_t (dw_or (dt_ne (de_len g.n.len (dv 2)) (de_meth0 g.count hr1 T.cl nfCount (de_mproc g.T (dv 0)) ⟨_, rfl, W.pw, rfl⟩)) fun _ => dw_or1 (dt_not (dt_val (de_call g.within hr1 (da_cons (dv 2) (da_cons (dg g.n.mreward) da_nil)) ⟨_, _, rfl, hl, rfl⟩))))) b2) (db_one (ds_ret (de_of (dn_lst (da_cons (dg g.n.outside) da_nil)))))
    | true =>
      rw [hv] at b2
      rw [if_neg (fun z => by rw [bad_iff.mp z] at hv; cases hv)] at s0
      refine db_ifF (dt_is (dw_t (dw_or (dt_ne (de_len g.n.len (dv 2)) (de_meth0 g.count hr1 T.cl nfCount (de_mproc g.T (dv 0)) ⟨_, rfl, W.pw, rfl⟩)) fun _ => dw_or1 (dt_not (dt_val (de_call g.within hr1 (da_cons (dv 2) (da_cons (dg g.n.mreward) da_nil)) ⟨_, _, rfl, hl, rfl⟩))))) b2) ?_
      rw [Bool.and_eq_true] at hv
      have pw' : PWf (Kp389.withRewards m.process t l) := pwf_rew W.pw (of_decide_eq_true hv.1) fun x hx => by
        have := valid_bd hv.2 x hx
        omega
      obtain ⟨x1, x2⟩ := chg_out s0 (by decide)
      rw [x2] at hm'
      cases hm'
      rw [x1]
      exact db_one (ds_retM (dm_deed gd.changed hr20 g.T nfChanged (dv 0) (da_cons (de_meth g.wtab hr3 T.cl nfWtab (de_mproc g.T (dv 0)) (da_cons (dv 1) (da_cons (dv 2) da_nil)) ⟨_, t, _, rfl, ht, rfl⟩) (da_cons (de_of (dn_lst (da_cons de_int da_nil))) da_nil)) ⟨_, [0], rfl, pw', rfl, rfl⟩))
def mk_copy : List D → Kp390.Call → Prop := fun ds c => ∃ (t : Nat), ds = [.int t] ∧ c = .copyRewards t
theorem scCopy : FnScope ["self", "table"] ["self", "table"] (defScope (inM 6)) := ⟨rfl, rfl, rfl, by decide +kernel, rfl, by decide +kernel, by decide +kernel⟩
theorem step_copy (p : Kp389.Process) (t : Nat) : Kp389.step (some p) (.copyRewards t) = if Kp389.isTable t then (some (Kp389.withRewards p t (Kp389.rewards p (1 - t))), Kp389.single 0) else (some p, Kp389.single (-2)) := rfl
theorem ok_copy (G : Fun K "copy_rewards" "Monitor.copy_rewards" (inM 6) f fd) (gd : PGd P w K mg base C CM) : FnOk P w K mg base CX0 22 f fd ["self", "table"] (spM K C CM (RD mk_copy)) := by
  refine deed_def G scCopy (fun m ds d m' ⟨_, ⟨_, h, _⟩, _⟩ => by rw [h]; rfl) fun cdv A outer s' H E hr a0 gg e m ds d m' h => ?_
  obtain ⟨_, ⟨t, rfl, rfl⟩, W, rfl, hm'⟩ := h
  have g := gd.m
  have T := g.g.T
  have hr3 : Room 3 _ := hr.mono (by decide)
  have hr20 : Room 20 _ := hr.mono (by decide)
  have e0 : Kp390.step (some m) (.copyRewards t) = Kp390.changeProcess m (.copyRewards t) := rfl
  rw [e0] at hm' ⊢
  have s0 := step_copy m.process t
  have b1 := condT t
  cases hb : Kp389.isTable t with
  | false =>
    rw [hb] at s0 b1
    rw [if_neg (by decide)] at s0
    obtain ⟨x1, x2⟩ := err_out s0 (by decide)
    rw [x2] at hm'
    cases hm'
    rw [x1]
    exact db_ifT (dt_is (dt_ge (dv 1) (dg g.n.tables)) b1) (db_one (ds_ret (de_of (dn_lst (da_cons (dg g.n.missing) da_nil)))))
  | true =>
    rw [hb] at s0 b1
    rw [if_pos rfl] at s0
    refine db_ifF (dt_is (dt_ge (dv 1) (dg g.n.tables)) b1) ?_
    have ht : t ≤ 1 := of_decide_eq_true hb
    have pw' : PWf (Kp389.withRewards m.process t (Kp389.rewards m.process (1 - t))) := pwf_rew W.pw (W.pw.rlen _) (W.pw.rbd _)
    obtain ⟨x1, x2⟩ := chg_out s0 (by decide)
    rw [x2] at hm'
    cases hm'
    rw [x1]
    have hta : atI [intD m.process.rewards0, intD m.process.rewards1] (1 - (t : Int)) = some (intD (Kp389.rewards m.process (1 - t))) := by
      have : (1 - (t : Int)) = ((1 - t : Nat) : Int) := by omega
      rw [this]
      exact tab_at (by omega)
    exact db_one (ds_retM (dm_deed gd.changed hr20 g.T nfChanged (dv 0) (da_cons (de_meth g.wtab hr3 T.cl nfWtab (de_mproc g.T (dv 0)) (da_cons (dv 1) (da_cons (de_ixL (de_fld pf_tables T.cl T.n5 (de_mproc g.T (dv 0))) (de_sub de_int (dv 1)) hta) da_nil)) ⟨_, t, _, rfl, ht, rfl⟩) (da_cons (de_of (dn_lst (da_cons de_int da_nil))) da_nil)) ⟨_, [0], rfl, pw', rfl, rfl⟩))
/-- what a changed table answers -/
def wrD (m : Kp390.Monitor) (t : Nat) (l : List Int) : D := if Kp389.withinLimit l then chgD m (Kp389.withRewards m.process t l) [0] else intD [-75]
def wrM (m : Kp390.Monitor) (t : Nat) (l : List Int) : Kp390.Monitor := if Kp389.withinLimit l then chgM m (Kp389.withRewards m.process t l) else m
def Rwr : Kp390.Monitor → List D → D → Kp390.Monitor → Prop := fun m ds d m' => ∃ (t : Nat) (l : List Int), ds = [.int t, intD l] ∧ PWf m.process ∧ t ≤ 1 ∧ l.length = m.process.stateCount * m.process.actionCount * m.process.stateCount ∧ d = wrD m t l ∧ m' = wrM m t l
theorem scWr : FnScope ["self", "table", "rewards"] ["self", "table", "rewards"] (defScope (inM 7)) := ⟨rfl, rfl, rfl, by decide +kernel, rfl, by decide +kernel, by decide +kernel⟩
theorem limit_eq (l : List Int) : (l.all fun x => decide (-(100000 : Int) ≤ x) && decide (x ≤ 100000)) = Kp389.withinLimit l := rfl
theorem ok_wr (G : Fun K "with_rewards" "Monitor.with_rewards" (inM 7) f fd) (gd : PGd P w K mg base C CM) : FnOk P w K mg base CX0 21 f fd ["self", "table", "rewards"] (spM K C CM Rwr) := by
  refine deed_def G scWr (fun m ds d m' ⟨_, _, h, _⟩ => by rw [h]; rfl) fun cdv A outer s' H E hr a0 gg e m ds d m' h => ?_
  obtain ⟨t, l, rfl, W, ht, hl, rfl, rfl⟩ := h
  have g := gd.m
  have T := g.g.T
  have hr1 : Room 1 _ := hr.mono (by decide)
  have hr3 : Room 3 _ := hr.mono (by decide)
  have hr20 : Room 20 _ := hr.mono (by decide)
  have hb48 : m.process.stateCount * m.process.actionCount * m.process.stateCount ≤ 48 := W.nmn
  have hl' : l.length ≤ 1000 := by omega
  have b1 := limit_eq l
  unfold wrD wrM
  cases hb : Kp389.withinLimit l with
  | false =>
    rw [hb] at b1
    rw [if_neg (by decide), if_neg (by decide)]
    exact db_ifT (dt_is (dt_not (dt_val (de_call g.within hr1 (da_cons (dv 2) (da_cons (dg g.n.mchanged) da_nil)) ⟨_, _, rfl, hl', rfl⟩))) (by rw [b1]; rfl)) (db_one (ds_ret (de_of (dn_lst (da_cons (dg g.n.tooLarge) da_nil)))))
  | true =>
    rw [hb] at b1
    rw [if_pos rfl, if_pos rfl]
    refine db_ifF (dt_is (dt_not (dt_val (de_call g.within hr1 (da_cons (dv 2) (da_cons (dg g.n.mchanged) da_nil)) ⟨_, _, rfl, hl', rfl⟩))) (by rw [b1]; rfl)) ?_
    have pw' : PWf (Kp389.withRewards m.process t l) := pwf_rew W hl fun x hx => by
      have := List.all_eq_true.mp hb x hx
      simp [Kp389.rewardLimit] at this
      exact ⟨of_decide_eq_true this.1, of_decide_eq_true this.2⟩
    exact db_one (ds_retM (dm_deed gd.changed hr20 g.T nfChanged (dv 0) (da_cons (de_meth g.wtab hr3 T.cl nfWtab (de_mproc g.T (dv 0)) (da_cons (dv 1) (da_cons (dv 2) da_nil)) ⟨_, t, _, rfl, ht, rfl⟩) (da_cons (de_of (dn_lst (da_cons de_int da_nil))) da_nil)) ⟨_, [0], rfl, pw', rfl, rfl⟩))
theorem nfWr : NoM "with_rewards" := by unfold NoM; decide +kernel
/-- what the specification answers, where a table is replaced within the limit -/
theorem wr_out {m : Kp390.Monitor} {c : Kp389.Call} {t : Nat} {l : List Int} (h : Kp389.step (some m.process) c = if Kp389.withinLimit l then (some (Kp389.withRewards m.process t l), Kp389.single 0) else (some m.process, Kp389.single (-75))) :
    outA (Kp390.changeProcess m c).2 = wrD m t l ∧ (Kp390.changeProcess m c).1 = some (wrM m t l) := by
  unfold wrD wrM
  cases hb : Kp389.withinLimit l with
  | true =>
    rw [hb, if_pos rfl] at h
    rw [if_pos rfl, if_pos rfl]
    exact chg_out h (by decide)
  | false =>
    rw [hb, if_neg (by decide)] at h
    rw [if_neg (by decide), if_neg (by decide)]
    exact err_out h (by decide)
def mk_shape : List D → Kp390.Call → Prop := fun ds c => ∃ (t : Nat) (l : List Int), ds = [.int t, intD l] ∧ l.length ≤ 1000 ∧ c = .shapeRewards t l
theorem scShp : FnScope ["self", "table", "potentials"] ["self", "table", "potentials"] (defScope (inM 8)) := ⟨rfl, rfl, rfl, by decide +kernel, rfl, by decide +kernel, by decide +kernel⟩
theorem step_shape (p : Kp389.Process) (t : Nat) (l : List Int) : Kp389.step (some p) (.shapeRewards t l) = if Kp389.isTable t = false then (some p, Kp389.single (-2)) else if l.length ≠ p.stateCount ∨ l.all Kp389.validReward = false then (some p, Kp389.single (-22)) else if Kp389.withinLimit (Kp389.shape p t l) then (some (Kp389.withRewards p t (Kp389.shape p t l)), Kp389.single 0) else (some p, Kp389.single (-75)) := rfl
theorem shape_len (p : Kp389.Process) (t : Nat) (l : List Int) : (Kp389.shape p t l).length = p.stateCount * p.actionCount * p.stateCount := by
  unfold Kp389.shape Kp389.triples Kp389.states Kp389.actions
  rw [List.length_map, flat_len (n := p.actionCount * p.stateCount) (fun _ => by rw [flat_len (n := p.stateCount) (fun _ => by simp), List.length_range]), List.length_range, Nat.mul_assoc]
theorem ok_shp (G : Fun K "shape_rewards" "Monitor.shape_rewards" (inM 8) f fd) (gd : PGd P w K mg base C CM) (gW : MetC P w K mg base 21 CM "with_rewards" (spM K C CM Rwr)) : FnOk P w K mg base CX0 22 f fd ["self", "table", "potentials"] (spM K C CM (RD mk_shape)) := by
  refine deed_def G scShp (fun m ds d m' ⟨_, ⟨_, _, h, _⟩, _⟩ => by rw [h]; rfl) fun cdv A outer s' H E hr a0 gg e m ds d m' h => ?_
  obtain ⟨_, ⟨t, l, rfl, hl, rfl⟩, W, rfl, hm'⟩ := h
  have g := gd.m
  have T := g.g.T
  have hr1 : Room 1 _ := hr.mono (by decide)
  have hr3 : Room 3 _ := hr.mono (by decide)
  have e0 : Kp390.step (some m) (.shapeRewards t l) = Kp390.changeProcess m (.shapeRewards t l) := rfl
  rw [e0] at hm' ⊢
  have s0 := step_shape m.process t l
  have b1 := condT t
  cases hb : Kp389.isTable t with
  | false =>
    rw [hb] at s0 b1
    rw [if_pos rfl] at s0
    obtain ⟨x1, x2⟩ := err_out s0 (by decide)
    rw [x2] at hm'
    cases hm'
    rw [x1]
    exact db_ifT (dt_is (dt_ge (dv 1) (dg g.n.tables)) b1) (db_one (ds_ret (de_of (dn_lst (da_cons (dg g.n.missing) da_nil)))))
  | true =>
    rw [hb] at s0 b1
    rw [if_neg (by decide)] at s0
    refine db_ifF (dt_is (dt_ge (dv 1) (dg g.n.tables)) b1) ?_
    have ht : t ≤ 1 := of_decide_eq_true hb
    have b2 := condRew l m.process.stateCount
    cases hv : (decide (l.length = m.process.stateCount) && l.all Kp389.validReward) with
    | false =>
      rw [hv] at b2
      rw [if_pos (bad_iff.mpr hv)] at s0
      obtain ⟨x1, x2⟩ := err_out s0 (by decide)
      rw [x2] at hm'
      cases hm'
      rw [x1]
      exact db_ifT (dt_is (dw_t (dw_or (dt_ne (de_len g.n.len (dv 2)) (de_fld pf_states T.cl T.n1 (de_mproc g.T (dv 0)))) fun _ => dw_or1 (dt_not (dt_val (de_call g.within hr1 (da_cons (dv 2) (da_cons (dg g.n.mreward) da_nil)) ⟨_, _, rfl, hl, rfl⟩))))) b2) (db_one (ds_ret (de_of (dn_lst (da_cons (dg g.n.outside) da_nil)))))
    | true =>
      rw [hv] at b2
      rw [if_neg (fun z => by rw [bad_iff.mp z] at hv; cases hv)] at s0
      refine db_ifF (dt_is (dw_t (dw_or (dt_ne (de_len g.n.len (dv 2)) (de_fld pf_states T.cl T.n1 (de_mproc g.T (dv 0)))) fun _ => dw_or1 (dt_not (dt_val (de_call g.within hr1 (da_cons (dv 2) (da_cons (dg g.n.mreward) da_nil)) ⟨_, _, rfl, hl, rfl⟩))))) b2) ?_
      rw [Bool.and_eq_true] at hv
      obtain ⟨x1, x2⟩ := wr_out s0
      rw [x2] at hm'
      cases hm'
      rw [x1]
      exact db_one (ds_retM (dm_deed gW hr g.T nfWr (dv 0) (da_cons (dv 1) (da_cons (de_call g.shaped hr3 (da_cons (de_mproc g.T (dv 0)) (da_cons (dv 1) (da_cons (dv 2) da_nil))) ⟨_, t, l, rfl, W.pw, ht, of_decide_eq_true hv.1, rfl⟩) da_nil)) ⟨t, _, rfl, W.pw, ht, shape_len _ _ _, rfl, rfl⟩))
def mk_scale : List D → Kp390.Call → Prop := fun ds c => ∃ (t k : Nat), ds = [.int t, .int k] ∧ c = .scaleRewards t k
theorem scScl : FnScope ["self", "table", "factor"] ["self", "table", "factor"] (defScope (inM 9)) := ⟨rfl, rfl, rfl, by decide +kernel, rfl, by decide +kernel, by decide +kernel⟩
theorem step_scale (p : Kp389.Process) (t c : Nat) : Kp389.step (some p) (.scaleRewards t c) = if Kp389.isTable t = false then (some p, Kp389.single (-2)) else if c < 1 ∨ 100 < c then (some p, Kp389.single (-22)) else if Kp389.withinLimit ((Kp389.rewards p t).map fun x => x * (c : Int)) then (some (Kp389.withRewards p t ((Kp389.rewards p t).map fun x => x * (c : Int))), Kp389.single 0) else (some p, Kp389.single (-75)) := rfl
theorem ok_scl (G : Fun K "scale_rewards" "Monitor.scale_rewards" (inM 9) f fd) (gd : PGd P w K mg base C CM) (gW : MetC P w K mg base 21 CM "with_rewards" (spM K C CM Rwr)) : FnOk P w K mg base CX0 22 f fd ["self", "table", "factor"] (spM K C CM (RD mk_scale)) := by
  refine deed_def G scScl (fun m ds d m' ⟨_, ⟨_, _, h, _⟩, _⟩ => by rw [h]; rfl) fun cdv A outer s' H E hr a0 gg e m ds d m' h => ?_
  obtain ⟨_, ⟨t, c, rfl, rfl⟩, W, rfl, hm'⟩ := h
  have g := gd.m
  have T := g.g.T
  have hr1 : Room 1 _ := hr.mono (by decide)
  have e0 : Kp390.step (some m) (.scaleRewards t c) = Kp390.changeProcess m (.scaleRewards t c) := rfl
  rw [e0] at hm' ⊢
  have s0 := step_scale m.process t c
  have b1 := condT t
  cases hb : Kp389.isTable t with
  | false =>
    rw [hb] at s0 b1
    rw [if_pos rfl] at s0
    obtain ⟨x1, x2⟩ := err_out s0 (by decide)
    rw [x2] at hm'
    cases hm'
    rw [x1]
    exact db_ifT (dt_is (dt_ge (dv 1) (dg g.n.tables)) b1) (db_one (ds_ret (de_of (dn_lst (da_cons (dg g.n.missing) da_nil)))))
  | true =>
    rw [hb] at s0 b1
    rw [if_neg (by decide)] at s0
    refine db_ifF (dt_is (dt_ge (dv 1) (dg g.n.tables)) b1) ?_
    have ht : t ≤ 1 := of_decide_eq_true hb
    by_cases hc : c < 1 ∨ 100 < c
    · rw [if_pos hc] at s0
      obtain ⟨x1, x2⟩ := err_out s0 (by decide)
      rw [x2] at hm'
      cases hm'
      rw [x1]
      refine db_ifT (dt_is (dt_not (dt_chain (p := fun i j => decide (i ≤ j)) (p' := fun i j => decide (i ≤ j)) op_le op_le de_int (dv 2) (dg g.n.mfactor))) ?_) (db_one (ds_ret (de_of (dn_lst (da_cons (dg g.n.outside) da_nil)))))
      rcases hc with hc | hc
      · rw [decide_eq_false (show ¬ (1 : Int) ≤ (c : Int) by omega)]; rfl
      · rw [decide_eq_false (show ¬ (c : Int) ≤ 100 by omega), Bool.and_false]; rfl
    · rw [if_neg hc] at s0
      refine db_ifF (dt_is (dt_not (dt_chain (p := fun i j => decide (i ≤ j)) (p' := fun i j => decide (i ≤ j)) op_le op_le de_int (dv 2) (dg g.n.mfactor))) ?_) ?_
      · rw [decide_eq_true (show (1 : Int) ≤ (c : Int) by omega), decide_eq_true (show (c : Int) ≤ 100 by omega)]; rfl
      obtain ⟨x1, x2⟩ := wr_out s0
      rw [x2] at hm'
      cases hm'
      rw [x1]
      exact db_one (ds_retM (dm_deed gW hr g.T nfWr (dv 0) (da_cons (dv 1) (da_cons (de_call g.scaled hr1 (da_cons (de_mproc g.T (dv 0)) (da_cons (dv 1) (da_cons (dv 2) da_nil))) ⟨_, t, c, rfl, W.pw, ht, by omega, rfl⟩) da_nil)) ⟨t, _, rfl, W.pw, ht, by rw [List.length_map]; exact W.pw.rlen t, rfl, rfl⟩))
end
end Sw
namespace Sw
open PySem PySem.Spec PyProof.Rows L2
theorem cond2 (p : Kp389.Process) (s a : Nat) : ((!decide (s < p.stateCount)) || !decide (a < p.actionCount)) = !(Kp389.isState p s && Kp389.isAction p a) := by
  unfold Kp389.isState Kp389.isAction
  rw [Bool.not_and]
theorem natSum (l : List Nat) : (l.map fun (x : Nat) => (x : Int)).sum = ((l.sum : Nat) : Int) := by
  induction l with
  | nil => rfl
  | cons x l ih => rw [List.map_cons, List.sum_cons, List.sum_cons, ih]; omega
theorem sum_zero (l : List Nat) : (l.any fun x => decide (0 < x)) = !decide (l.sum = 0) := by
  induction l with
  | nil => rfl
  | cons x l ih =>
    rw [List.any_cons, ih, List.sum_cons]
    by_cases h : 0 < x
    · rw [decide_eq_true h, Bool.true_or, decide_eq_false (by omega)]; rfl
    · rw [decide_eq_false h, Bool.false_or]
      congr 1
      exact decide_eq_decide.mpr (by omega)
theorem condW (p : Kp389.Process) (l : List Nat) : ((!decide ((((((l.map fun (x : Nat) => (x : Int)).map D.int).length : Nat)) : Int) = ((p.stateCount : Nat) : Int))) || ((!((l.map fun (x : Nat) => (x : Int)).all fun x => decide (-(9 : Int) ≤ x) && decide (x ≤ 9))) || decide ((l.map fun (x : Nat) => (x : Int)).sum = 0))) = !Kp389.validWeights p l := by
  unfold Kp389.validWeights
  have h := valid_eq l 9
  rw [Bool.not_and, Bool.not_and, Bool.or_assoc, sum_zero, Bool.not_not, ← h, List.length_map, List.length_map, natSum]
  congr 1
  · congr 1
    exact decide_eq_decide.mpr (by omega)
  · congr 1
    exact decide_eq_decide.mpr (by omega)
theorem step_setT (p : Kp389.Process) (s a : Nat) (l : List Nat) : Kp389.step (some p) (.setTransition s a l) = if (Kp389.isState p s && Kp389.isAction p a) = false then (some p, Kp389.single (-2)) else if Kp389.validWeights p l then (some (Kp389.withWeights p s a l), Kp389.single (l.sum : Nat)) else (some p, Kp389.single (-22)) := rfl
theorem wInt_len (l : List (List Nat)) : (wInt l).length = l.length := by simp [wInt]
section
variable {P : Program} {w : World} {K : PySem.W.Frag} {mg : Str → Option Value} {base : Heap} {C CM : Addr} {f : Addr} {fd : FuncData}
def mk_setT : List D → Kp390.Call → Prop := fun ds c => ∃ (s a : Nat) (l : List Nat), ds = [.int s, .int a, natD l] ∧ l.length ≤ 1000 ∧ c = .setTransition s a l
abbrev nSetT : List Str := ["self", "state", "action", "weights", "place", "rows", "fresh"]
theorem scSetT : FnScope nSetT ["self", "state", "action", "weights"] (defScope (inM 10)) := ⟨rfl, rfl, rfl, by decide +kernel, rfl, by decide +kernel, by decide +kernel⟩
theorem ok_setT (G : Fun K "set_transition" "Monitor.set_transition" (inM 10) f fd) (gd : PGd P w K mg base C CM) : FnOk P w K mg base CX0 22 f fd ["self", "state", "action", "weights"] (spM K C CM (RD mk_setT)) := by
  refine deed_def G scSetT (fun m ds d m' ⟨_, ⟨_, _, _, h, _⟩, _⟩ => by rw [h]; rfl) fun cdv A outer s' H E hr a0 gg e m ds d m' h => ?_
  obtain ⟨_, ⟨s, a, l, rfl, hl, rfl⟩, W, rfl, hm'⟩ := h
  have g := gd.m
  have T := g.g.T
  have hr1 : Room 1 _ := hr.mono (by decide)
  have hr3 : Room 3 _ := hr.mono (by decide)
  have hr20 : Room 20 _ := hr.mono (by decide)
  have hl' : (l.map fun (x : Nat) => (x : Int)).length ≤ 1000 := by rw [List.length_map]; exact hl
  have e0 : Kp390.step (some m) (.setTransition s a l) = Kp390.changeProcess m (.setTransition s a l) := rfl
  rw [e0] at hm' ⊢
  have s0 := step_setT m.process s a l
  have b1 := cond2 m.process s a
  cases hb : (Kp389.isState m.process s && Kp389.isAction m.process a) with
  | false =>
    rw [hb] at s0 b1
    rw [if_pos rfl] at s0
    obtain ⟨x1, x2⟩ := err_out s0 (by decide)
    rw [x2] at hm'
    cases hm'
    rw [x1]
    exact db_ifT (dt_is (dw_t (dw_or (dt_not (dt_val (de_ask gd.hasS hr1 g.T nfHasS (dv 0) (da_cons (dv 1) da_nil) ⟨s, rfl, rfl⟩ (.bl _)))) fun _ => dw_or1 (dt_not (dt_val (de_ask gd.hasA hr1 g.T nfHasA (dv 0) (da_cons (dv 2) da_nil) ⟨a, rfl, rfl⟩ (.bl _)))))) b1) (db_one (ds_ret (de_of (dn_lst (da_cons (dg g.n.missing) da_nil)))))
  | true =>
    rw [hb] at s0 b1
    rw [if_neg (by decide)] at s0
    refine db_ifF (dt_is (dw_t (dw_or (dt_not (dt_val (de_ask gd.hasS hr1 g.T nfHasS (dv 0) (da_cons (dv 1) da_nil) ⟨s, rfl, rfl⟩ (.bl _)))) fun _ => dw_or1 (dt_not (dt_val (de_ask gd.hasA hr1 g.T nfHasA (dv 0) (da_cons (dv 2) da_nil) ⟨a, rfl, rfl⟩ (.bl _)))))) b1) ?_
    simp only [Bool.and_eq_true, Kp389.isState, Kp389.isAction, decide_eq_true_eq] at hb
    obtain ⟨hs, ha⟩ := hb
    have b2 := condW m.process l
    cases hv : Kp389.validWeights m.process l with
    | false =>
      rw [hv] at b2 s0
      rw [if_neg (by decide)] at s0
      obtain ⟨x1, x2⟩ := err_out s0 (by decide)
      rw [x2] at hm'
      cases hm'
      rw [x1]
      exact db_ifT (dt_is (dw_t (dw_or (dt_ne (de_len g.n.len (dv 3)) (de_fld pf_states T.cl T.n1 (de_mproc g.T (dv 0)))) fun _ => dw_or (dt_not (dt_val (de_call g.within hr1 (da_cons (dv 3) (da_cons (dg g.n.mweight) da_nil)) ⟨_, _, rfl, hl', rfl⟩))) fun _ => dw_or1 (dt_eq (de_sum g.n.sum (dv 3)) de_int))) b2) (db_one (ds_ret (de_of (dn_lst (da_cons (dg g.n.outside) da_nil)))))
    | true =>
      rw [hv] at b2 s0
      rw [if_pos rfl] at s0
      refine db_ifF (dt_is (dw_t (dw_or (dt_ne (de_len g.n.len (dv 3)) (de_fld pf_states T.cl T.n1 (de_mproc g.T (dv 0)))) fun _ => dw_or (dt_not (dt_val (de_call g.within hr1 (da_cons (dv 3) (da_cons (dg g.n.mweight) da_nil)) ⟨_, _, rfl, hl', rfl⟩))) fun _ => dw_or1 (dt_eq (de_sum g.n.sum (dv 3)) de_int))) b2) ?_
      have hvw := hv
      unfold Kp389.validWeights at hvw
      rw [Bool.and_eq_true, Bool.and_eq_true, sum_zero] at hvw
      have v1 : l.length = m.process.stateCount := of_decide_eq_true hvw.1.1
      have v2 : ∀ x ∈ l, x ≤ 9 := fun x hx => of_decide_eq_true (List.all_eq_true.mp hvw.1.2 x hx)
      have v3 : 0 < l.sum := by have := hvw.2; simp at this; omega
      obtain ⟨x1, x2⟩ := chg_out s0 (by show (0 : Int) ≤ ((l.sum : Nat) : Int); omega)
      rw [x2] at hm'
      cases hm'
      rw [x1]
      have tl := W.pw.tl
      have n4 := W.pw.n4
      have m3 := W.pw.m3
      have hk : s * m.process.actionCount + a < m.process.transitions.length := by rw [tl]; exact lt_mul_of hs ha
      have h12 : m.process.transitions.length ≤ 12 := by
        rw [tl]
        have : m.process.stateCount * m.process.actionCount ≤ 4 * 3 := Nat.mul_le_mul n4 m3
        omega
      have ek : ((s : Int) * (m.process.actionCount : Int) + (a : Int)) = ((s * m.process.actionCount + a : Nat) : Int) := by rw [Int.natCast_add, Int.natCast_mul]
      have hk1 : (((s * m.process.actionCount + a : Nat) : Int) + 1) = ((s * m.process.actionCount + a + 1 : Nat) : Int) := by omega
      refine db_cons (ds_set 4 (de_is (de_add (de_mul (dv 1) (de_fld pf_actions T.cl T.n2 (de_mproc g.T (dv 0))) (mulR (by omega))) (dv 2)) (by rw [ek])) scSetT.nd) ?_
      refine db_cons (ds_set 5 (de_fld pf_weights T.cl T.n6 (de_mproc g.T (dv 0))) scSetT.nd) ?_
      have c1 : cutD ((wInt m.process.transitions).map intD) none (some ((s * m.process.actionCount + a : Nat) : Int)) = ((wInt m.process.transitions).map intD).take (s * m.process.actionCount + a) := cut_to _ (by rw [List.length_map, wInt_len]; omega)
      have c2 : cutD ((wInt m.process.transitions).map intD) (some (((s * m.process.actionCount + a : Nat) : Int) + 1)) none = ((wInt m.process.transitions).map intD).drop (s * m.process.actionCount + a + 1) := by rw [hk1]; exact cut_from _ (by rw [List.length_map, wInt_len]; omega)
      have z1 : (((wInt m.process.transitions).map intD).take (s * m.process.actionCount + a)).length + ([natD l] : List D).length ≤ 100 := by simp only [List.length_map, List.length_take, List.length_cons, List.length_nil, wInt_len]; omega
      have z2 : (((wInt m.process.transitions).map intD).take (s * m.process.actionCount + a) ++ [natD l]).length + (((wInt m.process.transitions).map intD).drop (s * m.process.actionCount + a + 1)).length ≤ 200 := by simp only [List.length_map, List.length_take, List.length_append, List.length_drop, List.length_cons, List.length_nil, wInt_len]; omega
      refine db_cons (ds_set 6 (d := .lst ((wInt (m.process.transitions.set (s * m.process.actionCount + a) l)).map intD)) (de_is (de_of (dn_cat (de_of (dn_cat (de_of (dn_is (dn_slL (dv 5) do_none (do_some (dv 4))) c1)) (de_of (dn_lst (da_cons (dv 3) da_nil))) (sz_le z1 rfl))) (de_of (dn_is (dn_slL (dv 5) (do_some (de_add (dv 4) de_int)) do_none) c2)) (sz_le z2 rfl))) ?_) scSetT.nd) ?_
      · congr 1
        have hk' : s * m.process.actionCount + a < ((wInt m.process.transitions).map intD).length := by rw [List.length_map, wInt_len]; exact hk
        rw [set_cut _ _ hk']
        unfold wInt
        rw [List.map_set, List.map_set]
        rfl
      · have pw' : PWf (Kp389.withWeights m.process s a l) := pwf_tr W.pw (by rw [List.length_set, tl]) fun r hr => by
          rcases List.mem_or_eq_of_mem_set hr with hr | rfl
          · exact W.pw.tw r hr
          · exact ⟨v1, v2, v3⟩
        exact db_one (ds_retM (dm_deed gd.changed hr20 g.T nfChanged (dv 0) (da_cons (de_meth g.wwei hr3 T.cl nfWwei (de_mproc g.T (dv 0)) (da_cons (dv 6) da_nil) ⟨_, _, rfl, rfl⟩) (da_cons (de_of (dn_lst (da_cons (de_is (de_sum g.n.sum (dv 3)) (by rw [natSum])) da_nil))) da_nil)) ⟨_, [((l.sum : Nat) : Int)], rfl, pw', rfl, rfl⟩))
/-! deterministic transitions -/
def mk_setD : List D → Kp390.Call → Prop := fun ds c => ∃ (l : List Nat), ds = [natD l] ∧ l.length ≤ 1000 ∧ c = .setDeterministic l
abbrev nSetD : List Str := ["self", "states", "state"]
theorem scSetD : FnScope nSetD ["self", "states"] (defScope (inM 11)) := ⟨rfl, rfl, rfl, by decide +kernel, rfl, by decide +kernel, by decide +kernel⟩
theorem step_setD (p : Kp389.Process) (l : List Nat) : Kp389.step (some p) (.setDeterministic l) = if Kp389.validWorld p l then (some (Kp389.deterministic p l), Kp389.single 0) else (some p, Kp389.single (-22)) := rfl
theorem only_ok {n q : Nat} (h : q < n) : (onlyAt n q).length = n ∧ (∀ x ∈ onlyAt n q, x ≤ 9) ∧ 0 < (onlyAt n q).sum := by
  refine ⟨by simp [onlyAt], fun x hx => ?_, ?_⟩
  · obtain ⟨i, _, rfl⟩ := List.mem_map.mp hx
    split <;> omega
  · have hm : 1 ∈ onlyAt n q := List.mem_map.mpr ⟨q, List.mem_range.mpr h, if_pos rfl⟩
    have : ∀ (l : List Nat), 1 ∈ l → 0 < l.sum := by
      intro l
      induction l with
      | nil => intro h; cases h
      | cons x l ih =>
        intro h
        rw [List.sum_cons]
        rcases List.mem_cons.mp h with h | h
        · omega
        · have := ih h; omega
    exact this _ hm
theorem ok_setD (G : Fun K "set_deterministic" "Monitor.set_deterministic" (inM 11) f fd) (gd : PGd P w K mg base C CM) : FnOk P w K mg base CX0 22 f fd ["self", "states"] (spM K C CM (RD mk_setD)) := by
  refine deed_def G scSetD (fun m ds d m' ⟨_, ⟨_, h, _⟩, _⟩ => by rw [h]; rfl) fun cdv A outer s' H E hr a0 gg e m ds d m' h => ?_
  obtain ⟨_, ⟨l, rfl, hl, rfl⟩, W, rfl, hm'⟩ := h
  have g := gd.m
  have T := g.g.T
  have hr1 : Room 1 _ := hr.mono (by decide)
  have hr3 : Room 3 _ := hr.mono (by decide)
  have hr20 : Room 20 _ := hr.mono (by decide)
  have n4 := W.pw.n4
  have m3 := W.pw.m3
  have e0 : Kp390.step (some m) (.setDeterministic l) = Kp390.changeProcess m (.setDeterministic l) := rfl
  rw [e0] at hm' ⊢
  have s0 := step_setD m.process l
  have szl : ((l.map fun (x : Nat) => (x : Int)).map D.int).length ≤ sizeLine := sz_le (m := 1000) (by rw [List.length_map, List.length_map]; exact hl) rfl
  by_cases hL : l.length = m.process.stateCount * m.process.actionCount
  · refine db_ifF (dt_is (dt_ne (de_len g.n.len (dv 1)) (de_mul (de_fld pf_states T.cl T.n1 (de_mproc g.T (dv 0))) (de_fld pf_actions T.cl T.n2 (de_mproc g.T (dv 0))) (mulR (by omega)))) ?_) ?_
    · rw [List.length_map, List.length_map, decide_eq_true (by rw [hL, Int.natCast_mul])]; rfl
    have hall : ∀ (X : Prop), X → X := fun _ x => x
    cases hv : l.all (Kp389.isState m.process) with
    | false =>
      have hw : Kp389.validWorld m.process l = false := by unfold Kp389.validWorld; rw [hv, Bool.and_false]
      rw [hw, if_neg (by decide)] at s0
      obtain ⟨x1, x2⟩ := err_out s0 (by decide)
      rw [x2] at hm'
      cases hm'
      rw [x1]
      refine db_ifT (dt_is (dt_not (dt_val (de_all (bs := l.map (Kp389.isState m.process)) g.n.all (de_of (dn_lc (n := "state") (i := 2) (es := (l.map (Kp389.isState m.process)).map D.bl) (di_list (dv 1)) (blkOk_by (N := nSetD) (sc := defScope (inM 11)) (by decide +kernel)) scSetD.nd (fun _ _ _ _ _ => pg_name (i := 2) scSetD.nd rfl (Or.inl rfl)) ?_ ?_ (fun i d e hd he s H C' cl fp => ?_)))))) ?_) (db_one (ds_ret (de_of (dn_lst (da_cons (dg g.n.outside) da_nil)))))
      · simp
      · exact szl
      · rw [List.map_map] at hd
        obtain ⟨_, rfl, _⟩ := map_get 0 hd
        rw [List.map_map] at he
        obtain ⟨_, rfl, _⟩ := map_get 0 he
        exact (de_ask gd.hasS hr1 g.T nfHasS (dv 0) (da_cons (dv 2) da_nil) ⟨_, rfl, rfl⟩ (.bl _))
      · rw [List.all_map]
        have : (l.all (id ∘ Kp389.isState m.process)) = l.all (Kp389.isState m.process) := rfl
        rw [this, hv]; rfl
    | true =>
      have hw : Kp389.validWorld m.process l = true := by unfold Kp389.validWorld; rw [hv, decide_eq_true hL]; rfl
      rw [hw, if_pos rfl] at s0
      obtain ⟨x1, x2⟩ := chg_out s0 (by decide)
      rw [x2] at hm'
      cases hm'
      rw [x1]
      refine db_ifF (dt_is (dt_not (dt_val (de_all (bs := l.map (Kp389.isState m.process)) g.n.all (de_of (dn_lc (n := "state") (i := 2) (es := (l.map (Kp389.isState m.process)).map D.bl) (di_list (dv 1)) (blkOk_by (N := nSetD) (sc := defScope (inM 11)) (by decide +kernel)) scSetD.nd (fun _ _ _ _ _ => pg_name (i := 2) scSetD.nd rfl (Or.inl rfl)) ?_ ?_ (fun i d e hd he s H C' cl fp => ?_)))))) ?_) ?_
      · simp
      · exact szl
      · rw [List.map_map] at hd
        obtain ⟨_, rfl, _⟩ := map_get 0 hd
        rw [List.map_map] at he
        obtain ⟨_, rfl, _⟩ := map_get 0 he
        exact (de_ask gd.hasS hr1 g.T nfHasS (dv 0) (da_cons (dv 2) da_nil) ⟨_, rfl, rfl⟩ (.bl _))
      · rw [List.all_map]
        have : (l.all (id ∘ Kp389.isState m.process)) = l.all (Kp389.isState m.process) := rfl
        rw [this, hv]; rfl
      · have pw' : PWf { m.process with transitions := l.map fun q => onlyAt m.process.stateCount q } := pwf_tr W.pw (by rw [List.length_map]; exact hL) fun r hr => by
          obtain ⟨q, hq, rfl⟩ := List.mem_map.mp hr
          exact only_ok (of_decide_eq_true (List.all_eq_true.mp hv q hq))
        have ed : Kp389.deterministic m.process l = { m.process with transitions := l.map fun q => onlyAt m.process.stateCount q } := rfl
        rw [ed]
        refine db_one (ds_retM (dm_deed gd.changed hr20 g.T nfChanged (dv 0) (da_cons (de_meth g.wwei hr3 T.cl nfWwei (de_mproc g.T (dv 0)) (da_cons (de_of (dn_lc (n := "state") (i := 2) (es := (wInt (l.map fun q => onlyAt m.process.stateCount q)).map intD) (di_list (dv 1)) (blkOk_by (N := nSetD) (sc := defScope (inM 11)) (by decide +kernel)) scSetD.nd (fun _ _ _ _ _ => pg_name (i := 2) scSetD.nd rfl (Or.inl rfl)) ?_ ?_ (fun i d e hd he s H C' cl fp => ?_))) da_nil) ⟨_, _, rfl, rfl⟩) (da_cons (de_of (dn_lst (da_cons de_int da_nil))) da_nil)) ⟨_, [0], rfl, pw', rfl, rfl⟩))
        · simp [wInt]
        · exact szl
        · rw [List.map_map] at hd
          obtain ⟨_, rfl, _⟩ := map_get 0 hd
          unfold wInt at he
          rw [List.map_map, List.map_map] at he
          obtain ⟨_, rfl, _⟩ := map_get 0 he
          exact de_call g.only hr1 (da_cons (de_fld pf_states T.cl T.n1 (de_mproc g.T (dv 0))) (da_cons (dv 2) da_nil)) ⟨_, _, rfl, n4, rfl⟩
  · have hw : Kp389.validWorld m.process l = false := by unfold Kp389.validWorld; rw [decide_eq_false hL]; rfl
    rw [hw, if_neg (by decide)] at s0
    obtain ⟨x1, x2⟩ := err_out s0 (by decide)
    rw [x2] at hm'
    cases hm'
    rw [x1]
    refine db_ifT (dt_is (dt_ne (de_len g.n.len (dv 1)) (de_mul (de_fld pf_states T.cl T.n1 (de_mproc g.T (dv 0))) (de_fld pf_actions T.cl T.n2 (de_mproc g.T (dv 0))) (mulR (by omega)))) ?_) (db_one (ds_ret (de_of (dn_lst (da_cons (dg g.n.outside) da_nil)))))
    rw [List.length_map, List.length_map, decide_eq_false (fun z => hL (by rw [← Int.natCast_mul] at z; omega))]; rfl
end
end Sw
namespace Sw
open PySem PySem.Spec PyProof.Rows L2
theorem units65 {k : Nat} {A : Around} (r : Room k A) : A.units + 65 < cLine := by have := r.un; omega
/-! guarantees compared -/
theorem guar_facts : ∀ l : List Kp390.Guarantee, plainDs (l.map gD) = true ∧ PyData.canLayAll0 (toPs (l.map gD)) = true ∧ PyData.depthAll (toPs (l.map gD)) ≤ 1
  | [] => ⟨rfl, rfl, Nat.zero_le _⟩
  | x :: l => by
    obtain ⟨h1, h2, h3⟩ := guar_facts l
    refine ⟨?_, ?_, ?_⟩
    · simp only [List.map_cons, plainDs, gD, plainD, h1, Bool.and_self]
    · simp only [List.map_cons, toPs, gD, toP, PyData.canLayAll0, PyData.canLay0, h2, Bool.and_self]
    · simp only [List.map_cons, toPs, gD, toP, PyData.depthAll, PyData.depth]
      omega
theorem guar_shaped (l : List Kp390.Guarantee) : SeqAt.shaped (.list (toPs (l.map gD))) = true := by
  obtain ⟨h1, h2, h3⟩ := guar_facts l
  unfold SeqAt.shaped
  rw [Bool.and_eq_true]
  refine ⟨by simp only [PyData.canLay0]; exact h2, decide_eq_true ?_⟩
  simp only [PyData.depth]
  omega
theorem guar_shaped1 (x : Kp390.Guarantee) : SeqAt.shaped (toP (gD x)) = true := by
  unfold SeqAt.shaped
  rw [Bool.and_eq_true]
  refine ⟨by simp only [gD, toP, toPs, PyData.canLay0, PyData.canLayAll0, Bool.and_self], decide_eq_true ?_⟩
  simp only [gD, toP, toPs, PyData.depth, PyData.depthAll]
  omega
theorem guar_eqv (x y : Kp390.Guarantee) : PyData.eqv (toP (gD y)) (toP (gD x)) = decide (y = x) := by
  obtain ⟨a, b⟩ := x
  obtain ⟨c, d⟩ := y
  simp only [gD, toP, toPs, PyData.eqv, PyData.eqvAll]
  by_cases h1 : c = a
  · by_cases h2 : d = b
    · subst h1; subst h2; simp
    · subst h1
      have : ¬ ((d : Int) = (b : Int)) := by omega
      simp [h2, this]
  · have : ¬ ((c : Int) = (a : Int)) := by omega
    simp [h1, this]
theorem guar_any (l : List Kp390.Guarantee) (x : Kp390.Guarantee) : ((toPs (l.map gD)).any fun z => PyData.eqv z (toP (gD x))) = l.contains x := by
  induction l with
  | nil => rfl
  | cons y l ih =>
    simp only [List.map_cons, toPs, List.any_cons, List.contains_cons, ih, guar_eqv]
    congr 1
    by_cases h : y = x
    · subst h; simp
    · rw [decide_eq_false h]
      symm
      rw [beq_eq_false_iff_ne]
      exact fun z => h z.symm
section
variable {P : Program} {w : World} {K : PySem.W.Frag} {mg : Str → Option Value} {base : Heap} {C CM : Addr} {f : Addr} {fd : FuncData}
def mk_addG : List D → Kp390.Call → Prop := fun ds c => ∃ k v : Nat, ds = [.int k, .int v] ∧ c = .addGuarantee k v
theorem scAddG : FnScope ["self", "kind", "value"] ["self", "kind", "value"] (defScope (inM 19)) := ⟨rfl, rfl, rfl, by decide +kernel, rfl, by decide +kernel, by decide +kernel⟩
theorem step_addG (m : Kp390.Monitor) (k v : Nat) : Kp390.step (some m) (.addGuarantee k v) = if Kp390.validGuarantee ⟨k, v⟩ = false then (some m, Kp390.single (-22)) else if m.guarantees.contains ⟨k, v⟩ then (some m, Kp390.single (-17)) else if Kp390.holds m.process ⟨k, v⟩ = false then (some m, Kp390.single (-30)) else if Kp390.maxGuarantees ≤ m.guarantees.length then (some m, Kp390.single (-28)) else (some { m with guarantees := m.guarantees ++ [⟨k, v⟩] }, Kp390.single (m.guarantees.length : Nat)) := rfl
theorem ok_addG (G : Fun K "add_guarantee" "Monitor.add_guarantee" (inM 19) f fd) (gd : PGd P w K mg base C CM) : FnOk P w K mg base CX0 22 f fd ["self", "kind", "value"] (spM K C CM (RD mk_addG)) := by
  refine deed_def G scAddG (fun m ds d m' ⟨_, ⟨_, _, h, _⟩, _⟩ => by rw [h]; rfl) fun cdv A outer s' H E hr a0 gg e m ds d m' h => ?_
  obtain ⟨_, ⟨k, v, rfl, rfl⟩, W, rfl, hm'⟩ := h
  have g := gd.m
  have hr1 : Room 1 _ := hr.mono (by decide)
  have hr15 : Room 15 _ := hr.mono (by decide)
  have hgl := W.gl
  have hu := units65 hr
  rw [step_addG] at hm' ⊢
  cases hv : Kp390.validGuarantee ⟨k, v⟩ with
  | false =>
    rw [hv, if_pos rfl] at hm'
    rw [if_pos rfl]
    cases hm'
    exact db_ifT (dt_is (dt_not (dt_val (de_call g.isg hr1 (da_cons (dv 1) (da_cons (dv 2) da_nil)) ⟨k, v, rfl, rfl⟩))) (by rw [hv]; rfl)) (db_one (ds_ret (de_of (dn_lst (da_cons (dg g.n.outside) da_nil)))))
  | true =>
    rw [hv, if_neg (by decide)] at hm'
    rw [if_neg (by decide)]
    refine db_ifF (dt_is (dt_not (dt_val (de_call g.isg hr1 (da_cons (dv 1) (da_cons (dv 2) da_nil)) ⟨k, v, rfl, rfl⟩))) (by rw [hv]; rfl)) ?_
    have gf := guar_facts m.guarantees
    cases hc : m.guarantees.contains (⟨k, v⟩ : Kp390.Guarantee) with
    | true =>
      rw [hc, if_pos rfl] at hm'
      rw [if_pos rfl]
      cases hm'
      exact db_ifT (dt_inH (d := gD ⟨k, v⟩) holds_g (de_tup (da_cons (dv 1) (da_cons (dv 2) da_nil))) (de_mgs g.T (dv 0)) rfl gf.1 (guar_shaped1 _) (guar_shaped _) ((guar_any _ _).trans hc) hu) (db_one (ds_ret (de_of (dn_lst (da_cons (dg g.n.present) da_nil)))))
    | false =>
      rw [hc, if_neg (by decide)] at hm'
      rw [if_neg (by decide)]
      refine db_ifF (dt_inH (d := gD ⟨k, v⟩) holds_g (de_tup (da_cons (dv 1) (da_cons (dv 2) da_nil))) (de_mgs g.T (dv 0)) rfl gf.1 (guar_shaped1 _) (guar_shaped _) ((guar_any _ _).trans hc) hu) ?_
      cases hh : Kp390.holds m.process ⟨k, v⟩ with
      | false =>
        rw [hh, if_pos rfl] at hm'
        rw [if_pos rfl]
        cases hm'
        exact db_ifT (dt_is (dt_not (dt_val (de_call g.holds hr15 (da_cons (de_mproc g.T (dv 0)) (da_cons (de_tup (da_cons (dv 1) (da_cons (dv 2) da_nil))) da_nil)) ⟨_, ⟨k, v⟩, rfl, W.pw, rfl⟩))) (by rw [hh]; rfl)) (db_one (ds_ret (de_of (dn_lst (da_cons (dg g.n.violated) da_nil)))))
      | true =>
        rw [hh, if_neg (by decide)] at hm'
        rw [if_neg (by decide)]
        refine db_ifF (dt_is (dt_not (dt_val (de_call g.holds hr15 (da_cons (de_mproc g.T (dv 0)) (da_cons (de_tup (da_cons (dv 1) (da_cons (dv 2) da_nil))) da_nil)) ⟨_, ⟨k, v⟩, rfl, W.pw, rfl⟩))) (by rw [hh]; rfl)) ?_
        by_cases hl : Kp390.maxGuarantees ≤ m.guarantees.length
        · rw [if_pos hl] at hm'
          rw [if_pos hl]
          cases hm'
          unfold Kp390.maxGuarantees at hl
          exact db_ifT (dt_is (dt_ge (de_lenH holds_g g.n.len (de_mgs g.T (dv 0))) (dg g.n.mguar)) (decide_eq_true (by rw [List.length_map]; omega))) (db_one (ds_ret (de_of (dn_lst (da_cons (dg g.n.full) da_nil)))))
        · rw [if_neg hl] at hm'
          rw [if_neg hl]
          cases hm'
          unfold Kp390.maxGuarantees at hl
          refine db_ifF (dt_is (dt_ge (de_lenH holds_g g.n.len (de_mgs g.T (dv 0))) (dg g.n.mguar)) (decide_eq_false (by rw [List.length_map]; omega))) ?_
          refine db_cons (ds_appG (gu := ⟨k, v⟩) (by omega) (de_mgs g.T (dv 0)) (de_tup (da_cons (dv 1) (da_cons (dv 2) da_nil)))) ?_
          refine db_one (ds_ret (de_is (de_of (dn_lst (da_cons (de_sub (de_lenH holds_g g.n.len (de_mgs g.T (dv 0))) de_int) da_nil))) ?_))
          show D.lst [D.int _] = D.lst [D.int _]
          congr 3
          rw [List.length_map]
          show (((m.guarantees ++ [(⟨k, v⟩ : Kp390.Guarantee)]).length : Nat) : Int) - 1 = ((m.guarantees.length : Nat) : Int)
          rw [List.length_append, List.length_singleton]
          omega
def mk_remG : List D → Kp390.Call → Prop := fun ds c => ∃ i : Nat, ds = [.int i] ∧ c = .removeGuarantee i
theorem scRemG : FnScope ["self", "number"] ["self", "number"] (defScope (inM 20)) := ⟨rfl, rfl, rfl, by decide +kernel, rfl, by decide +kernel, by decide +kernel⟩
theorem step_remG (m : Kp390.Monitor) (i : Nat) : Kp390.step (some m) (.removeGuarantee i) = if m.guarantees.length ≤ i then (some m, Kp390.single (-2)) else (some { m with guarantees := m.guarantees.eraseIdx i }, Kp390.single (m.guarantees.length - 1 : Nat)) := rfl
theorem ok_remG (G : Fun K "remove_guarantee" "Monitor.remove_guarantee" (inM 20) f fd) (gd : PGd P w K mg base C CM) : FnOk P w K mg base CX0 22 f fd ["self", "number"] (spM K C CM (RD mk_remG)) := by
  refine deed_def G scRemG (fun m ds d m' ⟨_, ⟨_, h, _⟩, _⟩ => by rw [h]; rfl) fun cdv A outer s' H E hr a0 gg e m ds d m' h => ?_
  obtain ⟨_, ⟨i, rfl, rfl⟩, W, rfl, hm'⟩ := h
  have g := gd.m
  have hgl := W.gl
  rw [step_remG] at hm' ⊢
  by_cases hl : m.guarantees.length ≤ i
  · rw [if_pos hl] at hm'
    rw [if_pos hl]
    cases hm'
    exact db_ifT (dt_is (dt_ge (dv 1) (de_lenH holds_g g.n.len (de_mgs g.T (dv 0)))) (decide_eq_true (by rw [List.length_map]; omega))) (db_one (ds_ret (de_of (dn_lst (da_cons (dg g.n.missing) da_nil)))))
  · rw [if_neg hl] at hm'
    rw [if_neg hl]
    cases hm'
    refine db_ifF (dt_is (dt_ge (dv 1) (de_lenH holds_g g.n.len (de_mgs g.T (dv 0)))) (decide_eq_false (by rw [List.length_map]; omega))) ?_
    refine db_cons (ds_popG (i := i) (by omega) (by omega) (de_mgs g.T (dv 0)) (dv 1)) ?_
    refine db_one (ds_ret (de_is (de_of (dn_lst (da_cons (de_lenH holds_g g.n.len (de_mgs g.T (dv 0))) da_nil))) ?_))
    show D.lst [D.int _] = D.lst [D.int _]
    congr 3
    rw [List.length_map]
    show (((m.guarantees.eraseIdx i).length : Nat) : Int) = ((m.guarantees.length - 1 : Nat) : Int)
    rw [List.length_eraseIdx_of_lt (by omega)]
def mk_run : List D → Kp390.Call → Prop := fun ds c => ∃ (t s : Nat) (l : List Nat), ds = [.int t, .int s, natD l] ∧ l.length ≤ 1000 ∧ c = .runEpisode t s l
theorem scRun : FnScope ["self", "table", "state", "randoms", "code"] ["self", "table", "state", "randoms"] (defScope (inM 25)) := ⟨rfl, rfl, rfl, by decide +kernel, rfl, by decide +kernel, by decide +kernel⟩
theorem step_run (m : Kp390.Monitor) (t s : Nat) (l : List Nat) : Kp390.step (some m) (.runEpisode t s l) = (match Kp390.episodeError m t s l with
    | some code => (some m, Kp390.single code)
    | none => if Kp390.maxEpisodes ≤ m.episodes.length then (some m, Kp390.single (-28)) else (some { m with episodes := m.episodes ++ [Kp390.episodeOf m.process t s l] }, Kp390.episodeResult (Kp390.episodeOf m.process t s l))) := rfl
theorem ok_run (G : Fun K "run_episode" "Monitor.run_episode" (inM 25) f fd) (gd : PGd P w K mg base C CM) (gE : MetC P w K mg base 20 CM "episode_error" (spQ K C CM RErr)) : FnOk P w K mg base CX0 22 f fd ["self", "table", "state", "randoms"] (spM K C CM (RD mk_run)) := by
  refine deed_def G scRun (fun m ds d m' ⟨_, ⟨_, _, _, h, _⟩, _⟩ => by rw [h]; rfl) fun cdv A outer s' H E hr a0 gg e m ds d m' h => ?_
  obtain ⟨_, ⟨t, s, l, rfl, hl, rfl⟩, W, rfl, hm'⟩ := h
  have g := gd.m
  have hr2 : Room 2 _ := hr.mono (by decide)
  have hr14 : Room 14 _ := hr.mono (by decide)
  have hr20 : Room 20 _ := hr.mono (by decide)
  have hel := W.el
  rw [step_run] at hm' ⊢
  refine db_cons (ds_set 4 (de_ask gE hr20 g.T nfErr (dv 0) (da_cons (dv 1) (da_cons (dv 2) (da_cons (dv 3) da_nil))) ⟨t, s, l, rfl, hl, rfl⟩ (.int _)) scRun.nd) ?_
  unfold codeI
  cases hc : Kp390.episodeError m t s l with
  | some code =>
    rw [hc] at hm'
    cases hm'
    exact db_ifT (dt_is (dt_ne (dv 4) de_int) (by rw [decide_eq_false (err_some hc)]; rfl)) (db_one (ds_ret (de_of (dn_lst (da_cons (dv 4) da_nil)))))
  | none =>
    rw [hc] at hm'
    simp only [] at hm' ⊢
    obtain ⟨h1, h2, h3, h4⟩ := err_none hc
    have ok := ep_ok W.pw (t := t) h2 h3 h4
    refine db_ifF (dt_is (dt_ne (dv 4) de_int) rfl) ?_
    by_cases hl2 : Kp390.maxEpisodes ≤ m.episodes.length
    · rw [if_pos hl2] at hm'
      rw [if_pos hl2]
      cases hm'
      unfold Kp390.maxEpisodes at hl2
      exact db_ifT (dt_is (dt_ge (de_lenH holds_e g.n.len (de_mes g.T (dv 0))) (dg g.n.mepis)) (decide_eq_true (by rw [List.length_map]; omega))) (db_one (ds_ret (de_of (dn_lst (da_cons (dg g.n.full) da_nil)))))
    · rw [if_neg hl2] at hm'
      rw [if_neg hl2]
      cases hm'
      unfold Kp390.maxEpisodes at hl2
      refine db_ifF (dt_is (dt_ge (de_lenH holds_e g.n.len (de_mes g.T (dv 0))) (dg g.n.mepis)) (decide_eq_false (by rw [List.length_map]; omega))) ?_
      refine db_cons (ds_appE (gu := Kp390.episodeOf m.process t s l) (by omega) (de_mes g.T (dv 0)) (de_call g.ep hr14 (da_cons (de_mproc g.T (dv 0)) (da_cons (dv 1) (da_cons (dv 2) (da_cons (dv 3) da_nil)))) ⟨_, t, s, l, rfl, W.pw, h1, h2, h3, h4, rfl⟩)) ?_
      have ha : atI ((m.episodes ++ [Kp390.episodeOf m.process t s l]).map epD) (-1) = some (epD (Kp390.episodeOf m.process t s l)) := by rw [List.map_append]; exact atI_last _ _
      exact db_one (ds_ret (de_call g.epn hr2 (da_cons (de_ixH holds_e (de_mes g.T (dv 0)) (de_neg de_int) ha) da_nil) ⟨_, rfl, ok.len, rfl⟩))
/-! ### the making of a monitor -/
def spMI (C CM : Addr) : Sp := fun vs A Q _ => ∃ (x dx : Addr) (v1 : V), vs = [.ref x, v1] ∧ A x = some (.ins CM dx []) ∧
  ∀ g e, A g = none → A e = none → g ≠ e → Q .non (upd (upd (upd A g (.lst [])) e (.lst [])) x (.ins CM dx [("process", v1), ("guarantees", .ref g), ("episodes", .ref e)]))
theorem scMI : FnScope ["self", "process"] ["self", "process"] (defScope (inM 0)) := ⟨rfl, rfl, rfl, by decide +kernel, rfl, by decide +kernel, by decide +kernel⟩
theorem ok_MI (G : Fun K "__init__" "Monitor.__init__" (inM 0) f fd) (T : MTxt K CM) : FnOk P w K mg base CX0 1 f fd ["self", "process"] (spMI C CM) := by
  refine G.ok scMI (fun vs H Q E h => ?_) (fun cdv A outer s H vs Q E hr h => ?_)
  · obtain ⟨x, dx, v1, rfl, _⟩ := h
    rfl
  · obtain ⟨x, dx, v1, rfl, hx, k⟩ := h
    refine ⟨_, pss_cons (ps_fld (pv 0) (pv 1) rfl) (pss_cons (ps_fld (pv 0) (pe_lst pa_nil) rfl) (pss_one (ps_fld (pv 0) (pe_lst pa_nil) rfl))), ?_⟩
    refine ⟨_, rfl, _, rfl, x, CM, dx, _, rfl, hx, T.cl, T.n1, (by show 0 < 1000; decide), ?_⟩
    refine ⟨Nat.zero_le _, fun g hg => ?_⟩
    have gx : g ≠ x := fun z => by subst z; rw [upd_same] at hg; cases hg
    have hg' : H g = none := by rw [upd_ne gx] at hg; exact hg
    refine ⟨_, rfl, x, CM, dx, [("process", v1)], rfl, ?_, T.cl, T.n2, (by show 1 < 1000; decide), ?_⟩
    · rw [upd_ne gx.symm, upd_same]
      rfl
    refine ⟨Nat.zero_le _, fun e he => ?_⟩
    have ex : e ≠ x := fun z => by subst z; rw [upd_same] at he; cases he
    have eg : e ≠ g := fun z => by subst z; rw [upd_ne gx, upd_same] at he; cases he
    have he' : H e = none := by rw [upd_ne ex, upd_ne eg, upd_ne ex] at he; exact he
    refine ⟨_, rfl, x, CM, dx, [("process", v1), ("guarantees", .ref g)], rfl, ?_, T.cl, T.n3, (by show 2 < 1000; decide), ?_⟩
    · rw [upd_ne ex.symm, upd_same]
      rfl
    have k' := k g e hg' he' eg.symm
    refine (?_ : Q V.non _)
    refine cast (congrArg (Q V.non) ?_) k'
    funext b
    by_cases b1 : b = x
    · subst b1
      rw [upd_same, upd_same]
      rfl
    · rw [upd_ne b1, upd_ne b1]
      by_cases b2 : b = e
      · subst b2; rw [upd_same, upd_same]
      · rw [upd_ne b2, upd_ne b2, upd_ne b1]
        by_cases b3 : b = g
        · subst b3; rw [upd_same, upd_same]
        · rw [upd_ne b3, upd_ne b3, upd_ne b1]
end
end Sw
namespace Sw
open PySem PySem.Spec PyProof.Rows L2
/-! ### calls, by word -/
abbrev nI (l : List Nat) : List Int := l.map fun (x : Nat) => (x : Int)
inductive Ask1 : Int → List Int → Kp390.Call → Prop
  | r (a b c d : Nat) (l : List Int) (h : l.length ≤ 1000) : Ask1 1 ((a : Int) :: (b : Int) :: (c : Int) :: (d : Int) :: l) (.setReward a b c d l)
  | rs (a : Nat) (l : List Int) (h : l.length ≤ 1000) : Ask1 2 ((a : Int) :: l) (.setRewards a l)
  | cp (a : Nat) : Ask1 3 [(a : Int)] (.copyRewards a)
  | sh (a : Nat) (l : List Int) (h : l.length ≤ 1000) : Ask1 4 ((a : Int) :: l) (.shapeRewards a l)
  | sc (a b : Nat) : Ask1 5 [(a : Int), (b : Int)] (.scaleRewards a b)
  | tr (a b : Nat) (l : List Nat) (h : l.length ≤ 1000) : Ask1 6 ((a : Int) :: (b : Int) :: nI l) (.setTransition a b l)
  | dt (l : List Nat) (h : l.length ≤ 1000) : Ask1 7 (nI l) (.setDeterministic l)
inductive Ask2 : Int → List Int → Kp390.Call → Prop
  | eq : Ask2 8 [] .areEquivalent
  | po : Ask2 9 [] .potentials
  | fa : Ask2 10 [] .equivalenceFactor
  | sa : Ask2 11 [] .sameOptimalActions
  | ov (a : Nat) : Ask2 12 [(a : Int)] (.optimalValues a)
  | op (a : Nat) : Ask2 13 [(a : Int)] (.optimalPolicy a)
  | re : Ask2 14 [] .regrets
inductive Ask3 : Int → List Int → Kp390.Call → Prop
  | ad (a b : Nat) : Ask3 15 [(a : Int), (b : Int)] (.addGuarantee a b)
  | rm (a : Nat) : Ask3 16 [(a : Int)] (.removeGuarantee a)
  | ge (a : Nat) : Ask3 17 [(a : Int)] (.getGuarantee a)
  | ch (a b : Nat) : Ask3 18 [(a : Int), (b : Int)] (.checkGuarantee a b)
  | le : Ask3 19 [] .leastRegretBound
inductive Ask4 : Int → List Int → Kp390.Call → Prop
  | ru (a b : Nat) (l : List Nat) (h : l.length ≤ 1000) : Ask4 20 ((a : Int) :: (b : Int) :: nI l) (.runEpisode a b l)
  | pr (a b : Nat) (l : List Nat) (h : l.length ≤ 1000) : Ask4 21 ((a : Int) :: (b : Int) :: nI l) (.previewEpisode a b l)
  | ge (a : Nat) : Ask4 22 [(a : Int)] (.getEpisode a)
  | to : Ask4 23 [] .totalReturns
  | co (a : Nat) : Ask4 24 [(a : Int)] (.correctedReturn a)
  | st : Ask4 25 [] .status
theorem cutk {ns : List Int} (k : Nat) {z : Int} (hz : z = (k : Int)) (h : k ≤ ns.length) : cutD (ns.map D.int) (some z) none = (ns.drop k).map D.int := by
  rw [hz, cut_from _ (by rw [List.length_map]; exact h), List.map_drop]
theorem outA_plain (r : Kp390.Ans) : Plain (outA r) := .lst _ _
section
variable {P : Program} {w : World} {K : PySem.W.Frag} {mg : Str → Option Value} {base : Heap} {C CM : Addr} {f : Addr} {fd : FuncData}
def R_isp : List D → D → Prop := fun ds d => ∃ a b c e : Int, ds = [.int a, .int b, .int c, .int e] ∧ d = .bl ((decide (2 ≤ a) && decide (a ≤ 4)) && ((decide (1 ≤ b) && decide (b ≤ 3)) && (decide (1 ≤ c) && (decide (c < e) && decide (e ≤ 10)))))
abbrev sIsp : Stmt := top 82
theorem scIsp : FnScope ["states", "actions", "top", "bottom"] ["states", "actions", "top", "bottom"] (defScope sIsp) := ⟨rfl, rfl, rfl, by decide +kernel, rfl, by decide +kernel, by decide +kernel⟩
theorem ok_isp (G : Fun K "is_process" "is_process" sIsp f fd) (n1 : MgI mg "MOST_STATES" 4) (n2 : MgI mg "MOST_ACTIONS" 3) (n3 : MgI mg "MOST_BOTTOM" 10) : FnOk P w K mg base CX0 1 f fd ["states", "actions", "top", "bottom"] (spD K C R_isp) := by
  refine pure_def G scIsp (fun ds d ⟨_, _, _, _, h, _⟩ => by rw [h]; rfl) fun cdv A outer s' H E hr ds d h => ?_
  obtain ⟨a, b, c, e, rfl, rfl⟩ := h
  exact db_one (ds_ret (de_and (de_chain (p := fun i j => decide (i ≤ j)) (p' := fun i j => decide (i ≤ j)) op_le op_le de_int (dv 0) (dg n1)) fun _ => de_and (de_chain (p := fun i j => decide (i ≤ j)) (p' := fun i j => decide (i ≤ j)) op_le op_le de_int (dv 1) (dg n2)) fun _ =>
    de_one (de_chain3 (p := fun i j => decide (i ≤ j)) (p' := fun i j => decide (i < j)) (p'' := fun i j => decide (i ≤ j)) op_le op_lt op_le de_int (dv 2) (dv 3) (dg n3))))
/-- the monitor's methods -/
structure PGa (P : Program) (w : World) (K : PySem.W.Frag) (mg : Str → Option Value) (base : Heap) (C CM : Addr) : Prop where
  T : MTxt K CM
  setR : MetC P w K mg base 22 CM "set_reward" (spM K C CM (RD mk_setR))
  setRs : MetC P w K mg base 22 CM "set_rewards" (spM K C CM (RD mk_setRs))
  copy : MetC P w K mg base 22 CM "copy_rewards" (spM K C CM (RD mk_copy))
  shape : MetC P w K mg base 22 CM "shape_rewards" (spM K C CM (RD mk_shape))
  scale : MetC P w K mg base 22 CM "scale_rewards" (spM K C CM (RD mk_scale))
  setT : MetC P w K mg base 22 CM "set_transition" (spM K C CM (RD mk_setT))
  setD : MetC P w K mg base 22 CM "set_deterministic" (spM K C CM (RD mk_setD))
  equiv : MetC P w K mg base 20 CM "equivalent" (spQ K C CM (RQ mk_equiv))
  pots : MetC P w K mg base 20 CM "potentials" (spQ K C CM (RQ mk_pots))
  factor : MetC P w K mg base 20 CM "equivalence_factor" (spQ K C CM (RQ mk_factor))
  same : MetC P w K mg base 20 CM "same_optimal_actions" (spQ K C CM (RQ mk_same))
  best : MetC P w K mg base 20 CM "best_values" (spQ K C CM (RQ mk_best))
  policy : MetC P w K mg base 20 CM "policy" (spQ K C CM (RQ mk_policy))
  regr : MetC P w K mg base 20 CM "all_regrets" (spQ K C CM (RQ mk_regr))
  addG : MetC P w K mg base 22 CM "add_guarantee" (spM K C CM (RD mk_addG))
  remG : MetC P w K mg base 22 CM "remove_guarantee" (spM K C CM (RD mk_remG))
  getG : MetC P w K mg base 20 CM "get_guarantee" (spQ K C CM (RQ mk_getG))
  chkG : MetC P w K mg base 20 CM "check_guarantee" (spQ K C CM (RQ mk_chkG))
  least : MetC P w K mg base 20 CM "least_regret_bound" (spQ K C CM (RQ mk_least))
  run : MetC P w K mg base 22 CM "run_episode" (spM K C CM (RD mk_run))
  prev : MetC P w K mg base 22 CM "preview_episode" (spQ K C CM (RQ mk_prev))
  getE : MetC P w K mg base 20 CM "get_episode" (spQ K C CM (RQ mk_getE))
  total : MetC P w K mg base 20 CM "total_returns" (spQ K C CM (RQ mk_total))
  corr : MetC P w K mg base 20 CM "corrected_return" (spQ K C CM (RQ mk_corr))
  status : MetC P w K mg base 20 CM "status" (spQ K C CM (RQ mk_status))
/-- what a part of the desk answers: words from lo to hi, None for other ones -/
def RPart (lo hi : Int) (ask : Int → List Int → Kp390.Call → Prop) : Kp390.Monitor → List D → D → Kp390.Monitor → Prop := fun m ds d m' => ∃ (x : Int) (n : List Int), ds = [.int x, intD n] ∧ MWf m ∧
  ((lo ≤ x ∧ x ≤ hi ∧ ∃ c, ask x n c ∧ d = outA (Kp390.step (some m) c).2 ∧ some m' = (Kp390.step (some m) c).1) ∨ ((x < lo ∨ hi < x) ∧ d = .non ∧ m' = m))
theorem nm1 : NoM "set_reward" := by unfold NoM; decide +kernel
theorem nm2 : NoM "set_rewards" := by unfold NoM; decide +kernel
theorem nm3 : NoM "copy_rewards" := by unfold NoM; decide +kernel
theorem nm4 : NoM "shape_rewards" := by unfold NoM; decide +kernel
theorem nm5 : NoM "scale_rewards" := by unfold NoM; decide +kernel
theorem nm6 : NoM "set_transition" := by unfold NoM; decide +kernel
theorem nm7 : NoM "set_deterministic" := by unfold NoM; decide +kernel
theorem nm8 : NoM "equivalent" := by unfold NoM; decide +kernel
theorem nm9 : NoM "potentials" := by unfold NoM; decide +kernel
theorem nm10 : NoM "equivalence_factor" := by unfold NoM; decide +kernel
theorem nm11 : NoM "same_optimal_actions" := by unfold NoM; decide +kernel
theorem nm12 : NoM "best_values" := by unfold NoM; decide +kernel
theorem nm13 : NoM "policy" := by unfold NoM; decide +kernel
theorem nm14 : NoM "all_regrets" := by unfold NoM; decide +kernel
theorem nm15 : NoM "add_guarantee" := by unfold NoM; decide +kernel
theorem nm16 : NoM "remove_guarantee" := by unfold NoM; decide +kernel
theorem nm17 : NoM "get_guarantee" := by unfold NoM; decide +kernel
theorem nm18 : NoM "check_guarantee" := by unfold NoM; decide +kernel
theorem nm19 : NoM "least_regret_bound" := by unfold NoM; decide +kernel
theorem nm20 : NoM "run_episode" := by unfold NoM; decide +kernel
theorem nm21 : NoM "preview_episode" := by unfold NoM; decide +kernel
theorem nm22 : NoM "get_episode" := by unfold NoM; decide +kernel
theorem nm23 : NoM "total_returns" := by unfold NoM; decide +kernel
theorem nm24 : NoM "corrected_return" := by unfold NoM; decide +kernel
theorem nm25 : NoM "status" := by unfold NoM; decide +kernel
theorem scChA : FnScope ["monitor", "word", "n"] ["monitor", "word", "n"] (defScope (top 83)) := ⟨rfl, rfl, rfl, by decide +kernel, rfl, by decide +kernel, by decide +kernel⟩
theorem ok_ChA (G : Fun K "change_answer" "change_answer" (top 83) f fd) (g : PGa P w K mg base C CM) : FnOk P w K mg base CX0 23 f fd ["monitor", "word", "n"] (spM K C CM (RPart 1 7 Ask1)) := by
  refine deed_def G scChA (fun m ds d m' ⟨_, _, h, _⟩ => by rw [h]; rfl) fun cdv A outer s' H E hr a0 gg e m ds d m' h => ?_
  obtain ⟨x, n, rfl, W, h⟩ := h
  have hr20 : Room 20 _ := hr.mono (by decide)
  rcases h with ⟨h1, h2, c, hc, rfl, hm'⟩ | ⟨hx, rfl, rfl⟩
  · cases hc with
    | r a b c d l hl =>
      have hs : cutD ((((a : Int) :: (b : Int) :: (c : Int) :: (d : Int) :: l)).map D.int) (some 4) none = (l).map D.int := cutk 4 rfl (by simp)
      exact db_ifT (dt_is (dt_eq (dv 1) de_int) rfl) (db_one (ds_retM (dm_deed g.setR hr g.T nm1 (dv 0) (da_cons (de_ixL (dv 2) de_int (int_at (j := 0) rfl)) (da_cons (de_ixL (dv 2) de_int (int_at (j := 1) rfl)) (da_cons (de_ixL (dv 2) de_int (int_at (j := 2) rfl)) (da_cons (de_ixL (dv 2) de_int (int_at (j := 3) rfl)) (da_cons (de_of (dn_is (dn_slL (dv 2) (do_some de_int) do_none) hs)) da_nil))))) ⟨_, ⟨a, b, c, d, l, rfl, hl, rfl⟩, W, rfl, hm'⟩)))
    | rs a l hl =>
      have hs : cutD ((((a : Int) :: l)).map D.int) (some 1) none = (l).map D.int := cutk 1 rfl (by simp)
      exact db_ifF (dt_is (dt_eq (dv 1) de_int) rfl) (db_ifT (dt_is (dt_eq (dv 1) de_int) rfl) (db_one (ds_retM (dm_deed g.setRs hr g.T nm2 (dv 0) (da_cons (de_ixL (dv 2) de_int (int_at (j := 0) rfl)) (da_cons (de_of (dn_is (dn_slL (dv 2) (do_some de_int) do_none) hs)) da_nil)) ⟨_, ⟨a, l, rfl, hl, rfl⟩, W, rfl, hm'⟩))))
    | cp a =>
      exact db_ifF (dt_is (dt_eq (dv 1) de_int) rfl) (db_ifF (dt_is (dt_eq (dv 1) de_int) rfl) (db_ifT (dt_is (dt_eq (dv 1) de_int) rfl) (db_one (ds_retM (dm_deed g.copy hr g.T nm3 (dv 0) (da_cons (de_ixL (dv 2) de_int (int_at (j := 0) rfl)) da_nil) ⟨_, ⟨a, rfl, rfl⟩, W, rfl, hm'⟩)))))
    | sh a l hl =>
      have hs : cutD ((((a : Int) :: l)).map D.int) (some 1) none = (l).map D.int := cutk 1 rfl (by simp)
      exact db_ifF (dt_is (dt_eq (dv 1) de_int) rfl) (db_ifF (dt_is (dt_eq (dv 1) de_int) rfl) (db_ifF (dt_is (dt_eq (dv 1) de_int) rfl) (db_ifT (dt_is (dt_eq (dv 1) de_int) rfl) (db_one (ds_retM (dm_deed g.shape hr g.T nm4 (dv 0) (da_cons (de_ixL (dv 2) de_int (int_at (j := 0) rfl)) (da_cons (de_of (dn_is (dn_slL (dv 2) (do_some de_int) do_none) hs)) da_nil)) ⟨_, ⟨a, l, rfl, hl, rfl⟩, W, rfl, hm'⟩))))))
    | sc a b =>
      exact db_ifF (dt_is (dt_eq (dv 1) de_int) rfl) (db_ifF (dt_is (dt_eq (dv 1) de_int) rfl) (db_ifF (dt_is (dt_eq (dv 1) de_int) rfl) (db_ifF (dt_is (dt_eq (dv 1) de_int) rfl) (db_ifT (dt_is (dt_eq (dv 1) de_int) rfl) (db_one (ds_retM (dm_deed g.scale hr g.T nm5 (dv 0) (da_cons (de_ixL (dv 2) de_int (int_at (j := 0) rfl)) (da_cons (de_ixL (dv 2) de_int (int_at (j := 1) rfl)) da_nil)) ⟨_, ⟨a, b, rfl, rfl⟩, W, rfl, hm'⟩)))))))
    | tr a b l hl =>
      have hs : cutD ((((a : Int) :: (b : Int) :: nI l)).map D.int) (some 2) none = (nI l).map D.int := cutk 2 rfl (by simp)
      exact db_ifF (dt_is (dt_eq (dv 1) de_int) rfl) (db_ifF (dt_is (dt_eq (dv 1) de_int) rfl) (db_ifF (dt_is (dt_eq (dv 1) de_int) rfl) (db_ifF (dt_is (dt_eq (dv 1) de_int) rfl) (db_ifF (dt_is (dt_eq (dv 1) de_int) rfl) (db_ifT (dt_is (dt_eq (dv 1) de_int) rfl) (db_one (ds_retM (dm_deed g.setT hr g.T nm6 (dv 0) (da_cons (de_ixL (dv 2) de_int (int_at (j := 0) rfl)) (da_cons (de_ixL (dv 2) de_int (int_at (j := 1) rfl)) (da_cons (de_of (dn_is (dn_slL (dv 2) (do_some de_int) do_none) hs)) da_nil))) ⟨_, ⟨a, b, l, rfl, hl, rfl⟩, W, rfl, hm'⟩))))))))
    | dt l hl =>
      exact db_ifF (dt_is (dt_eq (dv 1) de_int) rfl) (db_ifF (dt_is (dt_eq (dv 1) de_int) rfl) (db_ifF (dt_is (dt_eq (dv 1) de_int) rfl) (db_ifF (dt_is (dt_eq (dv 1) de_int) rfl) (db_ifF (dt_is (dt_eq (dv 1) de_int) rfl) (db_ifF (dt_is (dt_eq (dv 1) de_int) rfl) (db_one (ds_retM (dm_ife (dt_is (dt_eq (dv 1) de_int) rfl) (fun _ => (dm_deed g.setD hr g.T nm7 (dv 0) (da_cons (dv 2) da_nil) ⟨_, ⟨l, rfl, hl, rfl⟩, W, rfl, hm'⟩)) (fun h => by cases h)))))))))
  · exact db_ifF (dt_is (dt_eq (dv 1) de_int) (decide_eq_false (by omega))) (db_ifF (dt_is (dt_eq (dv 1) de_int) (decide_eq_false (by omega))) (db_ifF (dt_is (dt_eq (dv 1) de_int) (decide_eq_false (by omega))) (db_ifF (dt_is (dt_eq (dv 1) de_int) (decide_eq_false (by omega))) (db_ifF (dt_is (dt_eq (dv 1) de_int) (decide_eq_false (by omega))) (db_ifF (dt_is (dt_eq (dv 1) de_int) (decide_eq_false (by omega))) (db_one (ds_ret (de_ifeF (dt_is (dt_eq (dv 1) de_int) (decide_eq_false (by omega))) de_non))))))))
theorem scTaA : FnScope ["monitor", "word", "n"] ["monitor", "word", "n"] (defScope (top 84)) := ⟨rfl, rfl, rfl, by decide +kernel, rfl, by decide +kernel, by decide +kernel⟩
theorem ok_TaA (G : Fun K "table_answer" "table_answer" (top 84) f fd) (g : PGa P w K mg base C CM) : FnOk P w K mg base CX0 23 f fd ["monitor", "word", "n"] (spM K C CM (RPart 8 14 Ask2)) := by
  refine deed_def G scTaA (fun m ds d m' ⟨_, _, h, _⟩ => by rw [h]; rfl) fun cdv A outer s' H E hr a0 gg e m ds d m' h => ?_
  obtain ⟨x, n, rfl, W, h⟩ := h
  have hr20 : Room 20 _ := hr.mono (by decide)
  rcases h with ⟨h1, h2, c, hc, rfl, hm'⟩ | ⟨hx, rfl, rfl⟩
  · cases hc with
    | eq =>
      have hm2 : some m' = some m := hm'
      cases hm2
      exact db_ifT (dt_is (dt_eq (dv 1) de_int) rfl) (db_one (ds_ret (de_ask0 g.equiv hr20 g.T nm8 (dv 0) ⟨_, ⟨rfl, rfl⟩, W, rfl⟩ (outA_plain _))))
    | po =>
      have hm2 : some m' = some m := hm'
      cases hm2
      exact db_ifF (dt_is (dt_eq (dv 1) de_int) rfl) (db_ifT (dt_is (dt_eq (dv 1) de_int) rfl) (db_one (ds_ret (de_ask0 g.pots hr20 g.T nm9 (dv 0) ⟨_, ⟨rfl, rfl⟩, W, rfl⟩ (outA_plain _)))))
    | fa =>
      have hm2 : some m' = some m := hm'
      cases hm2
      exact db_ifF (dt_is (dt_eq (dv 1) de_int) rfl) (db_ifF (dt_is (dt_eq (dv 1) de_int) rfl) (db_ifT (dt_is (dt_eq (dv 1) de_int) rfl) (db_one (ds_ret (de_ask0 g.factor hr20 g.T nm10 (dv 0) ⟨_, ⟨rfl, rfl⟩, W, rfl⟩ (outA_plain _))))))
    | sa =>
      have hm2 : some m' = some m := hm'
      cases hm2
      exact db_ifF (dt_is (dt_eq (dv 1) de_int) rfl) (db_ifF (dt_is (dt_eq (dv 1) de_int) rfl) (db_ifF (dt_is (dt_eq (dv 1) de_int) rfl) (db_ifT (dt_is (dt_eq (dv 1) de_int) rfl) (db_one (ds_ret (de_ask0 g.same hr20 g.T nm11 (dv 0) ⟨_, ⟨rfl, rfl⟩, W, rfl⟩ (outA_plain _)))))))
    | ov a =>
      have hm2 : some m' = some m := hm'
      cases hm2
      exact db_ifF (dt_is (dt_eq (dv 1) de_int) rfl) (db_ifF (dt_is (dt_eq (dv 1) de_int) rfl) (db_ifF (dt_is (dt_eq (dv 1) de_int) rfl) (db_ifF (dt_is (dt_eq (dv 1) de_int) rfl) (db_ifT (dt_is (dt_eq (dv 1) de_int) rfl) (db_one (ds_ret (de_ask g.best hr20 g.T nm12 (dv 0) (da_cons (de_ixL (dv 2) de_int (int_at (j := 0) rfl)) da_nil) ⟨_, ⟨a, rfl, rfl⟩, W, rfl⟩ (outA_plain _))))))))
    | op a =>
      have hm2 : some m' = some m := hm'
      cases hm2
      exact db_ifF (dt_is (dt_eq (dv 1) de_int) rfl) (db_ifF (dt_is (dt_eq (dv 1) de_int) rfl) (db_ifF (dt_is (dt_eq (dv 1) de_int) rfl) (db_ifF (dt_is (dt_eq (dv 1) de_int) rfl) (db_ifF (dt_is (dt_eq (dv 1) de_int) rfl) (db_ifT (dt_is (dt_eq (dv 1) de_int) rfl) (db_one (ds_ret (de_ask g.policy hr20 g.T nm13 (dv 0) (da_cons (de_ixL (dv 2) de_int (int_at (j := 0) rfl)) da_nil) ⟨_, ⟨a, rfl, rfl⟩, W, rfl⟩ (outA_plain _)))))))))
    | re =>
      have hm2 : some m' = some m := hm'
      cases hm2
      exact db_ifF (dt_is (dt_eq (dv 1) de_int) rfl) (db_ifF (dt_is (dt_eq (dv 1) de_int) rfl) (db_ifF (dt_is (dt_eq (dv 1) de_int) rfl) (db_ifF (dt_is (dt_eq (dv 1) de_int) rfl) (db_ifF (dt_is (dt_eq (dv 1) de_int) rfl) (db_ifF (dt_is (dt_eq (dv 1) de_int) rfl) (db_one (ds_ret (de_ifeT (dt_is (dt_eq (dv 1) de_int) rfl) (de_ask0 g.regr hr20 g.T nm14 (dv 0) ⟨_, ⟨rfl, rfl⟩, W, rfl⟩ (outA_plain _))))))))))
  · exact db_ifF (dt_is (dt_eq (dv 1) de_int) (decide_eq_false (by omega))) (db_ifF (dt_is (dt_eq (dv 1) de_int) (decide_eq_false (by omega))) (db_ifF (dt_is (dt_eq (dv 1) de_int) (decide_eq_false (by omega))) (db_ifF (dt_is (dt_eq (dv 1) de_int) (decide_eq_false (by omega))) (db_ifF (dt_is (dt_eq (dv 1) de_int) (decide_eq_false (by omega))) (db_ifF (dt_is (dt_eq (dv 1) de_int) (decide_eq_false (by omega))) (db_one (ds_ret (de_ifeF (dt_is (dt_eq (dv 1) de_int) (decide_eq_false (by omega))) de_non))))))))
theorem scGuA : FnScope ["monitor", "word", "n"] ["monitor", "word", "n"] (defScope (top 85)) := ⟨rfl, rfl, rfl, by decide +kernel, rfl, by decide +kernel, by decide +kernel⟩
theorem ok_GuA (G : Fun K "guarantee_answer" "guarantee_answer" (top 85) f fd) (g : PGa P w K mg base C CM) : FnOk P w K mg base CX0 23 f fd ["monitor", "word", "n"] (spM K C CM (RPart 15 19 Ask3)) := by
  refine deed_def G scGuA (fun m ds d m' ⟨_, _, h, _⟩ => by rw [h]; rfl) fun cdv A outer s' H E hr a0 gg e m ds d m' h => ?_
  obtain ⟨x, n, rfl, W, h⟩ := h
  have hr20 : Room 20 _ := hr.mono (by decide)
  rcases h with ⟨h1, h2, c, hc, rfl, hm'⟩ | ⟨hx, rfl, rfl⟩
  · cases hc with
    | ad a b =>
      exact db_ifT (dt_is (dt_eq (dv 1) de_int) rfl) (db_one (ds_retM (dm_deed g.addG hr g.T nm15 (dv 0) (da_cons (de_ixL (dv 2) de_int (int_at (j := 0) rfl)) (da_cons (de_ixL (dv 2) de_int (int_at (j := 1) rfl)) da_nil)) ⟨_, ⟨a, b, rfl, rfl⟩, W, rfl, hm'⟩)))
    | rm a =>
      exact db_ifF (dt_is (dt_eq (dv 1) de_int) rfl) (db_ifT (dt_is (dt_eq (dv 1) de_int) rfl) (db_one (ds_retM (dm_deed g.remG hr g.T nm16 (dv 0) (da_cons (de_ixL (dv 2) de_int (int_at (j := 0) rfl)) da_nil) ⟨_, ⟨a, rfl, rfl⟩, W, rfl, hm'⟩))))
    | ge a =>
      have hm2 : some m' = some m := hm'
      cases hm2
      exact db_ifF (dt_is (dt_eq (dv 1) de_int) rfl) (db_ifF (dt_is (dt_eq (dv 1) de_int) rfl) (db_ifT (dt_is (dt_eq (dv 1) de_int) rfl) (db_one (ds_ret (de_ask g.getG hr20 g.T nm17 (dv 0) (da_cons (de_ixL (dv 2) de_int (int_at (j := 0) rfl)) da_nil) ⟨_, ⟨a, rfl, rfl⟩, W, rfl⟩ (outA_plain _))))))
    | ch a b =>
      have hm2 : some m' = some m := hm'
      cases hm2
      exact db_ifF (dt_is (dt_eq (dv 1) de_int) rfl) (db_ifF (dt_is (dt_eq (dv 1) de_int) rfl) (db_ifF (dt_is (dt_eq (dv 1) de_int) rfl) (db_ifT (dt_is (dt_eq (dv 1) de_int) rfl) (db_one (ds_ret (de_ask g.chkG hr20 g.T nm18 (dv 0) (da_cons (de_ixL (dv 2) de_int (int_at (j := 0) rfl)) (da_cons (de_ixL (dv 2) de_int (int_at (j := 1) rfl)) da_nil)) ⟨_, ⟨a, b, rfl, rfl⟩, W, rfl⟩ (outA_plain _)))))))
    | le =>
      have hm2 : some m' = some m := hm'
      cases hm2
      exact db_ifF (dt_is (dt_eq (dv 1) de_int) rfl) (db_ifF (dt_is (dt_eq (dv 1) de_int) rfl) (db_ifF (dt_is (dt_eq (dv 1) de_int) rfl) (db_ifF (dt_is (dt_eq (dv 1) de_int) rfl) (db_one (ds_ret (de_ifeT (dt_is (dt_eq (dv 1) de_int) rfl) (de_ask0 g.least hr20 g.T nm19 (dv 0) ⟨_, ⟨rfl, rfl⟩, W, rfl⟩ (outA_plain _))))))))
  · exact db_ifF (dt_is (dt_eq (dv 1) de_int) (decide_eq_false (by omega))) (db_ifF (dt_is (dt_eq (dv 1) de_int) (decide_eq_false (by omega))) (db_ifF (dt_is (dt_eq (dv 1) de_int) (decide_eq_false (by omega))) (db_ifF (dt_is (dt_eq (dv 1) de_int) (decide_eq_false (by omega))) (db_one (ds_ret (de_ifeF (dt_is (dt_eq (dv 1) de_int) (decide_eq_false (by omega))) de_non))))))
def REp : Kp390.Monitor → List D → D → Kp390.Monitor → Prop := fun m ds d m' => ∃ (x : Int) (n : List Int) (c : Kp390.Call), ds = [.int x, intD n] ∧ MWf m ∧ Ask4 x n c ∧ d = outA (Kp390.step (some m) c).2 ∧ some m' = (Kp390.step (some m) c).1
theorem scEpA : FnScope ["monitor", "word", "n"] ["monitor", "word", "n"] (defScope (top 86)) := ⟨rfl, rfl, rfl, by decide +kernel, rfl, by decide +kernel, by decide +kernel⟩
theorem ok_EpA (G : Fun K "episode_answer" "episode_answer" (top 86) f fd) (g : PGa P w K mg base C CM) : FnOk P w K mg base CX0 23 f fd ["monitor", "word", "n"] (spM K C CM REp) := by
  refine deed_def G scEpA (fun m ds d m' ⟨_, _, _, h, _⟩ => by rw [h]; rfl) fun cdv A outer s' H E hr a0 gg e m ds d m' h => ?_
  obtain ⟨x, n, c, rfl, W, hc, rfl, hm'⟩ := h
  have hr20 : Room 20 _ := hr.mono (by decide)
  cases hc with
  | ru a b l hl =>
    have hs : cutD ((((a : Int) :: (b : Int) :: nI l)).map D.int) (some 2) none = (nI l).map D.int := cutk 2 rfl (by simp)
    exact db_ifT (dt_is (dt_eq (dv 1) de_int) rfl) (db_one (ds_retM (dm_deed g.run hr g.T nm20 (dv 0) (da_cons (de_ixL (dv 2) de_int (int_at (j := 0) rfl)) (da_cons (de_ixL (dv 2) de_int (int_at (j := 1) rfl)) (da_cons (de_of (dn_is (dn_slL (dv 2) (do_some de_int) do_none) hs)) da_nil))) ⟨_, ⟨a, b, l, rfl, hl, rfl⟩, W, rfl, hm'⟩)))
  | pr a b l hl =>
    have hs : cutD ((((a : Int) :: (b : Int) :: nI l)).map D.int) (some 2) none = (nI l).map D.int := cutk 2 rfl (by simp)
    have hm2 : some m' = some m := hm'
    cases hm2
    exact db_ifF (dt_is (dt_eq (dv 1) de_int) rfl) (db_ifT (dt_is (dt_eq (dv 1) de_int) rfl) (db_one (ds_ret (de_ask g.prev hr g.T nm21 (dv 0) (da_cons (de_ixL (dv 2) de_int (int_at (j := 0) rfl)) (da_cons (de_ixL (dv 2) de_int (int_at (j := 1) rfl)) (da_cons (de_of (dn_is (dn_slL (dv 2) (do_some de_int) do_none) hs)) da_nil))) ⟨_, ⟨a, b, l, rfl, hl, rfl⟩, W, rfl⟩ (outA_plain _)))))
  | ge a =>
    have hm2 : some m' = some m := hm'
    cases hm2
    exact db_ifF (dt_is (dt_eq (dv 1) de_int) rfl) (db_ifF (dt_is (dt_eq (dv 1) de_int) rfl) (db_ifT (dt_is (dt_eq (dv 1) de_int) rfl) (db_one (ds_ret (de_ask g.getE hr20 g.T nm22 (dv 0) (da_cons (de_ixL (dv 2) de_int (int_at (j := 0) rfl)) da_nil) ⟨_, ⟨a, rfl, rfl⟩, W, rfl⟩ (outA_plain _))))))
  | to =>
    have hm2 : some m' = some m := hm'
    cases hm2
    exact db_ifF (dt_is (dt_eq (dv 1) de_int) rfl) (db_ifF (dt_is (dt_eq (dv 1) de_int) rfl) (db_ifF (dt_is (dt_eq (dv 1) de_int) rfl) (db_ifT (dt_is (dt_eq (dv 1) de_int) rfl) (db_one (ds_ret (de_ask0 g.total hr20 g.T nm23 (dv 0) ⟨_, ⟨rfl, rfl⟩, W, rfl⟩ (outA_plain _)))))))
  | co a =>
    have hm2 : some m' = some m := hm'
    cases hm2
    exact db_ifF (dt_is (dt_eq (dv 1) de_int) rfl) (db_ifF (dt_is (dt_eq (dv 1) de_int) rfl) (db_ifF (dt_is (dt_eq (dv 1) de_int) rfl) (db_ifF (dt_is (dt_eq (dv 1) de_int) rfl) (db_one (ds_ret (de_ifeT (dt_is (dt_eq (dv 1) de_int) rfl) (de_ask g.corr hr20 g.T nm24 (dv 0) (da_cons (de_ixL (dv 2) de_int (int_at (j := 0) rfl)) da_nil) ⟨_, ⟨a, rfl, rfl⟩, W, rfl⟩ (outA_plain _))))))))
  | st =>
    have hm2 : some m' = some m := hm'
    cases hm2
    exact db_ifF (dt_is (dt_eq (dv 1) de_int) rfl) (db_ifF (dt_is (dt_eq (dv 1) de_int) rfl) (db_ifF (dt_is (dt_eq (dv 1) de_int) rfl) (db_ifF (dt_is (dt_eq (dv 1) de_int) rfl) (db_one (ds_ret (de_ifeF (dt_is (dt_eq (dv 1) de_int) rfl) (de_ask0 g.status hr20 g.T nm25 (dv 0) ⟨_, ⟨rfl, rfl⟩, W, rfl⟩ (outA_plain _))))))))
end
end Sw
namespace Sw
open PySem PySem.Spec PyProof.Rows L2
theorem ask1_rg {x : Int} {n : List Int} {c : Kp390.Call} (h : Ask1 x n c) : 1 ≤ x ∧ x ≤ 7 := by cases h <;> decide
theorem ask2_rg {x : Int} {n : List Int} {c : Kp390.Call} (h : Ask2 x n c) : 8 ≤ x ∧ x ≤ 14 := by cases h <;> decide
theorem ask3_rg {x : Int} {n : List Int} {c : Kp390.Call} (h : Ask3 x n c) : 15 ≤ x ∧ x ≤ 19 := by cases h <;> decide
theorem ask4_rg {x : Int} {n : List Int} {c : Kp390.Call} (h : Ask4 x n c) : 20 ≤ x ∧ x ≤ 25 := by cases h <;> decide
section
variable {C CM a g e : Addr} {X : Cx} {δ : List SD} {o : Expr} {es : List Expr} {pos p : Pos} {k i : Nat} {x : Str} {mo m1 : Kp390.Monitor} {f : Addr} {fd : FuncData} {ps : List Str}
/-- a deed by a def that a local name holds -/
theorem dm_part {R : Kp390.Monitor → List D → D → Kp390.Monitor → Prop} {ds : List D} {d : D} (G : FnOk X.prog X.w X.K X.mg X.base CX0 k f fd ps (spM X.K C CM R)) (hk : PySem.W.keepIn X.K (.ref f) = true) (hb : Binds X.K fd ps []) (hr : Room k X.A) (hi : δ[i]? = some (.dat (.raw (.ref f)))) (ho : DE C X o (MonF X.K C CM a g e mo) δ (.raw (.ref a))) (ha : DA C X es (MonF X.K C CM a g e mo) δ ds) (hR : R mo ds d m1) (hN : X.N[i]? = some x := by rfl) (hv : Vis X.env.scope x := by first | exact Or.inl rfl | exact Or.inr (Or.inl rfl) | exact Or.inr (Or.inr rfl)) (hdb : (x == ("__debug__" : Str)) = false := by decide) (hcd : (x == ("__classdict__" : Str)) = false := by decide)
    (he : starEach (o :: es) X.env = (false, eval o X.env) :: starEach es X.env := by rfl) (hpl : (backTo pos (starEach es X.env)).any (·.1) = false := by rfl) : DM C X (Mt3 a g e) (.Call (.Name x p) (o :: es) [] pos) (MonF X.K C CM a g e mo) δ (MonF X.K C CM a g e m1) d :=
  pe_imp (pe_callL (i := i) G hr hN hv hk hb .nil pass0 (pa_cons ho ha he) hdb hcd he hpl) fun σ A Q ⟨H0, A0, H, s, q⟩ => by
    obtain ⟨v, e1, r⟩ := s.sl.dat hi
    simp only [Rp] at r
    subst r
    refine ⟨e1, ?_⟩
    refine (of_DE s fun v H1 A1 s1 r1 => ?_ : teD X.K C (MonF X.K C CM a g e mo) δ (.raw (.ref a)) σ A _)
    simp only [Rp] at r1
    subst r1
    refine ⟨Mt3 a g e, A0, H1, s1.ha, s1.f, s1.sl, fun vs H2 A2 n2 r2 => ?_⟩
    show spM X.K C CM R ((V.ref a :: vs) ++ []) A2 Q _
    rw [List.append_nil]
    exact deed_core (s1.nx n2) r2 hR q
end
section
variable {P : Program} {w : World} {K : PySem.W.Frag} {mg : Str → Option Value} {base : Heap} {C CM : Addr} {f : Addr} {fd : FuncData}
def AskAny (x : Int) (n : List Int) (c : Kp390.Call) : Prop := Ask1 x n c ∨ Ask2 x n c ∨ Ask3 x n c ∨ Ask4 x n c
def RAns : Kp390.Monitor → List D → D → Kp390.Monitor → Prop := fun m ds d m' => ∃ (x : Int) (n : List Int) (c : Kp390.Call), ds = [.int x, intD n] ∧ MWf m ∧ AskAny x n c ∧ d = outA (Kp390.step (some m) c).2 ∧ some m' = (Kp390.step (some m) c).1
abbrev nAns : List Str := ["monitor", "word", "n", "part", "found"]
theorem scAns : FnScope nAns ["monitor", "word", "n"] (defScope (top 87)) := ⟨rfl, rfl, rfl, by decide +kernel, rfl, by decide +kernel, by decide +kernel⟩
theorem ok_Ans (G : Fun K "answer" "answer" (top 87) f fd) (g1 : Cal P w K mg base 23 "change_answer" (spM K C CM (RPart 1 7 Ask1))) (g2 : Cal P w K mg base 23 "table_answer" (spM K C CM (RPart 8 14 Ask2))) (g3 : Cal P w K mg base 23 "guarantee_answer" (spM K C CM (RPart 15 19 Ask3))) (g4 : Cal P w K mg base 23 "episode_answer" (spM K C CM REp)) :
    FnOk P w K mg base CX0 24 f fd ["monitor", "word", "n"] (spM K C CM RAns) := by
  refine deed_def G scAns (fun m ds d m' ⟨_, _, _, h, _⟩ => by rw [h]; rfl) fun cdv A outer s' H E hr a0 gg e m ds d m' h => ?_
  obtain ⟨x, n, c, rfl, W, hc, rfl, hm'⟩ := h
  obtain ⟨f1, fd1, ps1, F1, m1, k1, b1⟩ := g1
  obtain ⟨f2, fd2, ps2, F2, m2, k2, b2⟩ := g2
  obtain ⟨f3, fd3, ps3, F3, m3, k3, b3⟩ := g3
  have nf : ∀ (m0 : Kp390.Monitor) (lo hi : Int) ask, x < lo ∨ hi < x → RPart lo hi ask m [.int x, intD n] .non m := fun m0 lo hi ask hx => ⟨x, n, rfl, W, .inr ⟨hx, rfl, rfl⟩⟩
  have tup : DE C (cxOf CX0 P w K mg base nAns "answer" (defScope (top 87)) f cdv A outer s' H E).nox (match defBody (top 87) with | .For _ it _ _ _ :: _ => it | _ => .Constant .none 0 ⟨0, 0, 0, 0⟩) (MonF K C CM a0 gg e m) [.dat (.raw (.ref a0)), .dat (.int x), .dat (intD n), .un, .un] (.tup [.raw (.ref f1), .raw (.ref f2), .raw (.ref f3)]) :=
    de_tup (da_cons (de_glob (v := V.ref f1) (by rfl) m1 rfl (fun H => by simp only [Rp])) (da_cons (de_glob (v := V.ref f2) (by rfl) m2 rfl (fun H => by simp only [Rp])) (da_cons (de_glob (v := V.ref f3) (by rfl) m3 rfl (fun H => by simp only [Rp])) da_nil)))
  let D1 (fk : Addr) : List SD := [.dat (.raw (.ref a0)), .dat (.int x), .dat (intD n), .dat (.raw (.ref fk)), .un]
  let D2 (fk : Addr) : List SD := [.dat (.raw (.ref a0)), .dat (.int x), .dat (intD n), .dat (.raw (.ref fk)), .dat .non]
  let fa (k : Nat) : Addr := if k = 0 then f1 else if k = 1 then f2 else f3
  have noneT : ∀ (fk : Addr) (fdk : FuncData) (psk : List Str) (lo hi : Int) (ask : Int → List Int → Kp390.Call → Prop), FnOk P w K mg base CX0 23 fk fdk psk (spM K C CM (RPart lo hi ask)) → PySem.W.keepIn K (.ref fk) = true → Binds K fdk psk [] → (x < lo ∨ hi < x) →
      DB C (cxOf CX0 P w K mg base nAns "answer" (defScope (top 87)) f cdv A outer s' H E).nox (Mt3 a0 gg e) (match defBody (top 87) with | .For _ _ b _ _ :: _ => b | _ => []) (MonF K C CM a0 gg e m) (D1 fk) (.nx (MonF K C CM a0 gg e m) (D2 fk)) := fun fk fdk psk lo hi ask F kk bb hx =>
    db_cons (ds_setM 4 (dm_part (i := 3) F kk bb hr rfl (dv 0) (da_cons (dv 1) (da_cons (dv 2) da_nil)) (nf m lo hi ask hx)) scAns.nd) (db_one (ds_if (dt_notN (dv 4)) (fun h => by cases h) (fun _ => db_nil)))
  have someT : ∀ (fk : Addr) (fdk : FuncData) (psk : List Str) (lo hi : Int) (ask : Int → List Int → Kp390.Call → Prop), FnOk P w K mg base CX0 23 fk fdk psk (spM K C CM (RPart lo hi ask)) → PySem.W.keepIn K (.ref fk) = true → Binds K fdk psk [] → lo ≤ x → x ≤ hi → ask x n c →
      DB C (cxOf CX0 P w K mg base nAns "answer" (defScope (top 87)) f cdv A outer s' H E).nox (Mt3 a0 gg e) (match defBody (top 87) with | .For _ _ b _ _ :: _ => b | _ => []) (MonF K C CM a0 gg e m) (D1 fk) (.rt (MonF K C CM a0 gg e m') (outA (Kp390.step (some m) c).2)) := fun fk fdk psk lo hi ask F kk bb h1 h2 h3 =>
    db_cons (ds_setM 4 (dm_part (i := 3) F kk bb hr rfl (dv 0) (da_cons (dv 1) (da_cons (dv 2) da_nil)) ⟨x, n, rfl, W, .inl ⟨h1, h2, c, h3, rfl, hm'⟩⟩) scAns.nd) (db_one (ds_if (dt_notN (dv 4)) (fun _ => db_one (ds_ret (dv 4))) (fun h => by cases h)))
  have get : ∀ (k : Nat) (d : D), ([.raw (.ref f1), .raw (.ref f2), .raw (.ref f3)] : List D)[k]? = some d → k < 3 ∧ d = .raw (.ref (fa k)) := fun k d hd => by
    match k, hd with
    | 0, hd => cases hd; exact ⟨by decide, rfl⟩
    | 1, hd => cases hd; exact ⟨by decide, rfl⟩
    | 2, hd => cases hd; exact ⟨by decide, rfl⟩
    | k + 3, hd => simp at hd
  let F (_ : Nat) : Fm := MonF K C CM a0 gg e m
  let Di (_ : Nat) : List SD := [.dat (.raw (.ref a0)), .dat (.int x), .dat (intD n), .un, .un]
  rcases hc with hc | hc | hc | hc
  · have rg := ask1_rg hc
    refine db_ret (ds_forR (ds := [.raw (.ref f1), .raw (.ref f2), .raw (.ref f3)]) (j := 0) F Di (fun k => D1 (fa k)) (fun k => D2 (fa k)) (by show 0 < 3; decide) (di_tup tup) (fun k d hd => ?_) (fun k d hd hk => ?_) (fun d hd => ?_) (fun k hk => .same (.same (.same (.un (.un .nil))))) PassesOwn.never)
    · obtain ⟨_, rfl⟩ := get k d hd
      exact dg_name 3 scAns.nd
    · omega
    · exact someT f1 fd1 ps1 1 7 Ask1 F1 k1 b1 rg.1 rg.2 hc
  · have rg := ask2_rg hc
    refine db_ret (ds_forR (ds := [.raw (.ref f1), .raw (.ref f2), .raw (.ref f3)]) (j := 1) F Di (fun k => D1 (fa k)) (fun k => D2 (fa k)) (by show 1 < 3; decide) (di_tup tup) (fun k d hd => ?_) (fun k d hd hk => ?_) (fun d hd => ?_) (fun k hk => .same (.same (.same (.un (.un .nil))))) PassesOwn.never)
    · obtain ⟨_, rfl⟩ := get k d hd
      exact dg_name 3 scAns.nd
    · have e : k = 0 := by omega
      subst e
      exact noneT f1 fd1 ps1 1 7 Ask1 F1 k1 b1 (by omega)
    · exact someT f2 fd2 ps2 8 14 Ask2 F2 k2 b2 rg.1 rg.2 hc
  · have rg := ask3_rg hc
    refine db_ret (ds_forR (ds := [.raw (.ref f1), .raw (.ref f2), .raw (.ref f3)]) (j := 2) F Di (fun k => D1 (fa k)) (fun k => D2 (fa k)) (by show 2 < 3; decide) (di_tup tup) (fun k d hd => ?_) (fun k d hd hk => ?_) (fun d hd => ?_) (fun k hk => .same (.same (.same (.un (.un .nil))))) PassesOwn.never)
    · obtain ⟨_, rfl⟩ := get k d hd
      exact dg_name 3 scAns.nd
    · have e : k = 0 ∨ k = 1 := by omega
      rcases e with rfl | rfl
      · exact noneT f1 fd1 ps1 1 7 Ask1 F1 k1 b1 (by omega)
      · exact noneT f2 fd2 ps2 8 14 Ask2 F2 k2 b2 (by omega)
    · exact someT f3 fd3 ps3 15 19 Ask3 F3 k3 b3 rg.1 rg.2 hc
  · have rg := ask4_rg hc
    refine db_cons (ds_for (ds := [.raw (.ref f1), .raw (.ref f2), .raw (.ref f3)]) F Di (fun k => D1 (fa k)) (fun k => D2 (fa k)) (di_tup tup) (fun k d hd => ?_) (fun k d hd => ?_) (fun k hk => .same (.same (.same (.un (.un .nil))))) PassesOwn.never) ?_
    · obtain ⟨_, rfl⟩ := get k d hd
      exact dg_name 3 scAns.nd
    · obtain ⟨hk, _⟩ := get k d hd
      have e : k = 0 ∨ k = 1 ∨ k = 2 := by omega
      rcases e with rfl | rfl | rfl
      · exact noneT f1 fd1 ps1 1 7 Ask1 F1 k1 b1 (by omega)
      · exact noneT f2 fd2 ps2 8 14 Ask2 F2 k2 b2 (by omega)
      · exact noneT f3 fd3 ps3 15 19 Ask3 F3 k3 b3 (by omega)
    · exact db_one (ds_retM (dm_call g4 hr (dv 0) (da_cons (dv 1) (da_cons (dv 2) da_nil)) ⟨x, n, c, rfl, W, hc, rfl, hm'⟩))
end
end Sw
namespace Sw
open Kp389 (Process)
/-! ### the calls as one list -/
abbrev NCall := List (List Int)
def enc : NCall → List Int
  | [x :: n] => x :: (n.length : Int) :: (n ++ [0])
  | _ => []
theorem rows_len : ∀ (k : Nat) (l : List Int) (xs : List (List Int)) (u : List Int), PyFlat.rows k l = some (xs, u) → xs.length = k
  | 0, l, xs, u, h => by
    simp only [PyFlat.rows, Option.some.injEq, Prod.mk.injEq] at h
    rw [← h.1]; rfl
  | k + 1, l, xs, u, h => by
    simp only [PyFlat.rows] at h
    cases h1 : PyFlat.row l with
    | none => rw [h1] at h; cases h
    | some p =>
      obtain ⟨x, s⟩ := p
      rw [h1] at h
      simp only [] at h
      cases h2 : PyFlat.rows k s with
      | none => rw [h2] at h; cases h
      | some q =>
        obtain ⟨ys, t⟩ := q
        rw [h2] at h
        simp only [Option.some.injEq, Prod.mk.injEq] at h
        rw [← h.1, List.length_cons, rows_len k s ys t h2]
theorem asked_one {c : NCall} (h : Kp390Neutral.asked1 c = true) : ∃ x n, c = [x :: n] := by
  match c, h with
  | [x :: n], _ => exact ⟨x, n, rfl⟩
  | [], h => cases h
  | [[]], h => cases h
  | [] :: _ :: _, h => cases h
  | (_ :: _) :: _ :: _, h => 
    unfold Kp390Neutral.asked1 at h
    split at h <;> simp_all
theorem call_enc {l : List Int} {c : NCall} {t : List Int} (h : PyWide.call l = some (c, t)) (ha : Kp390Neutral.asked1 c = true) : l = enc c ++ t := by
  match l, h with
  | p :: r, h =>
    simp only [PyWide.call] at h
    cases h1 : PyFlat.row r with
    | none => rw [h1] at h; cases h
    | some q =>
      obtain ⟨ns, rest⟩ := q
      rw [h1] at h
      match rest, h with
      | k :: t', h =>
        simp only [] at h
        by_cases hk : 0 ≤ k
        · rw [if_pos hk] at h
          cases h2 : PyFlat.rows k.toNat t' with
          | none => rw [h2] at h; cases h
          | some q2 =>
            obtain ⟨xs, u⟩ := q2
            rw [h2] at h
            simp only [Option.some.injEq, Prod.mk.injEq] at h
            obtain ⟨e1, e2⟩ := h
            obtain ⟨x, n, e3⟩ := asked_one ha
            rw [e3] at e1
            simp only [List.cons.injEq] at e1
            obtain ⟨⟨rfl, rfl⟩, e4⟩ := e1
            subst e4
            have hl := rows_len _ _ _ _ h2
            have k0 : k = 0 := by simp at hl; omega
            subst k0
            have h2' : PyFlat.rows 0 t' = some ([], u) := h2
            simp only [PyFlat.rows, Option.some.injEq, Prod.mk.injEq, true_and] at h2'
            subst h2'
            subst e2
            match r, h1 with
            | cnt :: r', h1 =>
              simp only [PyFlat.row] at h1
              split at h1
              · rename_i hc
                simp only [Option.some.injEq, Prod.mk.injEq] at h1
                obtain ⟨f1, f2⟩ := h1
                rw [e3]
                simp only [enc]
                have hlen : ns.length = cnt.toNat := by rw [← f1, List.length_take]; omega
                have hr' : r' = ns ++ 0 :: t' := by rw [← f1, ← f2, List.take_append_drop]
                rw [hr', hlen]
                have : ((cnt.toNat : Nat) : Int) = cnt := by omega
                rw [this]
                simp
              · cases h1
            | [], h1 => simp [PyFlat.row] at h1
        · rw [if_neg hk] at h; cases h
      | [], h => simp at h
  | [], h => simp [PyWide.call] at h
theorem calls_enc : ∀ (f : Nat) (l : List Int) (cs : List NCall), PyWide.calls f l = some cs → cs.all Kp390Neutral.asked1 = true → l = cs.flatMap enc
  | _, [], cs, h, _ => by
    have : cs = [] := by
      cases ‹Nat› <;> simp [PyWide.calls] at h <;> exact h
    subst this
    rfl
  | 0, _ :: _, cs, h, _ => by simp [PyWide.calls] at h
  | f + 1, p :: r, cs, h, ha => by
    simp only [PyWide.calls] at h
    cases h1 : PyWide.call (p :: r) with
    | none => rw [h1] at h; cases h
    | some q =>
      obtain ⟨c, t⟩ := q
      rw [h1] at h
      simp only [] at h
      cases h2 : PyWide.calls f t with
      | none => rw [h2] at h; cases h
      | some cs' =>
        rw [h2] at h
        simp only [Option.some.injEq] at h
        subst h
        rw [List.all_cons, Bool.and_eq_true] at ha
        rw [call_enc h1 ha.1, calls_enc f t cs' h2 ha.2]
        simp
/-! ### each call's numbers -/
theorem nat_of {z : Int} (h : Kp390Neutral.natural z = true) : z = ((z.toNat : Nat) : Int) := by
  unfold Kp390Neutral.natural at h
  rw [Bool.and_eq_true] at h
  have := of_decide_eq_true h.1
  omega
theorem nats_of {l : List Int} (h : l.all Kp390Neutral.natural = true) : l = nI (l.map Int.toNat) := by
  unfold nI
  rw [List.map_map]
  conv => lhs; rw [← List.map_id l]
  refine List.map_congr_left fun x hx => ?_
  exact nat_of (List.all_eq_true.mp h x hx)
theorem asked_kinds {x : Int} {n : List Int} (h : Kp390Neutral.asked1 [x :: n] = true) : (x = 0 ∧ ∃ a b c d : Nat, n = [(a : Int), (b : Int), (c : Int), (d : Int)] ∧ Kp390Neutral.callOf [x :: n] = some (.create a b c d)) ∨ ∃ c, AskAny x n c ∧ Kp390Neutral.callOf [x :: n] = some c := by
  unfold Kp390Neutral.asked1 at h
  split at h
  · rename_i a b c d e
    simp only [List.cons.injEq, and_true] at e
    obtain ⟨rfl, rfl⟩ := e
    simp only [Bool.and_eq_true] at h
    obtain ⟨h1, h2, h3, h4⟩ := h
    exact .inl ⟨rfl, a.toNat, b.toNat, c.toNat, d.toNat, by rw [← nat_of h1, ← nat_of h2, ← nat_of h3, ← nat_of h4], rfl⟩
  · rename_i a b c d l e
    simp only [List.cons.injEq, and_true] at e
    obtain ⟨rfl, rfl⟩ := e
    simp only [Bool.and_eq_true] at h
    obtain ⟨h1, h2, h3, h4, hl, hz⟩ := h
    refine .inr ⟨.setReward a.toNat b.toNat c.toNat d.toNat l, .inl ?_, rfl⟩
    have z := Ask1.r a.toNat b.toNat c.toNat d.toNat l (Nat.le_trans (of_decide_eq_true hz) (by decide))
    rw [← nat_of h1, ← nat_of h2, ← nat_of h3, ← nat_of h4] at z
    exact z
  · rename_i a l e
    simp only [List.cons.injEq, and_true] at e
    obtain ⟨rfl, rfl⟩ := e
    simp only [Bool.and_eq_true] at h
    obtain ⟨h1, hl, hz⟩ := h
    refine .inr ⟨.setRewards a.toNat l, .inl ?_, rfl⟩
    have z := Ask1.rs a.toNat l (Nat.le_trans (of_decide_eq_true hz) (by decide))
    rw [← nat_of h1] at z
    exact z
  · rename_i a e
    simp only [List.cons.injEq, and_true] at e
    obtain ⟨rfl, rfl⟩ := e
    have h1 := h
    refine .inr ⟨.copyRewards a.toNat, .inl ?_, rfl⟩
    have z := Ask1.cp a.toNat
    rw [← nat_of h1] at z
    exact z
  · rename_i a l e
    simp only [List.cons.injEq, and_true] at e
    obtain ⟨rfl, rfl⟩ := e
    simp only [Bool.and_eq_true] at h
    obtain ⟨h1, hl, hz⟩ := h
    refine .inr ⟨.shapeRewards a.toNat l, .inl ?_, rfl⟩
    have z := Ask1.sh a.toNat l (Nat.le_trans (of_decide_eq_true hz) (by decide))
    rw [← nat_of h1] at z
    exact z
  · rename_i a b e
    simp only [List.cons.injEq, and_true] at e
    obtain ⟨rfl, rfl⟩ := e
    simp only [Bool.and_eq_true] at h
    obtain ⟨h1, h2⟩ := h
    refine .inr ⟨.scaleRewards a.toNat b.toNat, .inl ?_, rfl⟩
    have z := Ask1.sc a.toNat b.toNat
    rw [← nat_of h1, ← nat_of h2] at z
    exact z
  · rename_i a b l e
    simp only [List.cons.injEq, and_true] at e
    obtain ⟨rfl, rfl⟩ := e
    simp only [Bool.and_eq_true] at h
    obtain ⟨h1, h2, hl, hz⟩ := h
    have hn := nats_of hl
    refine .inr ⟨.setTransition a.toNat b.toNat (l.map Int.toNat), .inl ?_, rfl⟩
    have z := Ask1.tr a.toNat b.toNat (l.map Int.toNat) (by rw [List.length_map]; exact Nat.le_trans (of_decide_eq_true hz) (by decide))
    rw [← nat_of h1, ← nat_of h2, ← hn] at z
    exact z
  · rename_i l0 e
    simp only [List.cons.injEq, and_true] at e
    obtain ⟨rfl, rfl⟩ := e
    simp only [Bool.and_eq_true] at h
    obtain ⟨hl, hz⟩ := h
    have hn := nats_of hl
    refine .inr ⟨.setDeterministic  (n.map Int.toNat), .inl ?_, rfl⟩
    have z := Ask1.dt (n.map Int.toNat) (by rw [List.length_map]; exact Nat.le_trans (of_decide_eq_true hz) (by decide))
    rw [← hn] at z
    exact z
  · rename_i e
    simp only [List.cons.injEq, and_true] at e
    obtain ⟨rfl, rfl⟩ := e
    refine .inr ⟨.areEquivalent , .inr (.inl ?_), rfl⟩
    have z := Ask2.eq 
    exact z
  · rename_i e
    simp only [List.cons.injEq, and_true] at e
    obtain ⟨rfl, rfl⟩ := e
    refine .inr ⟨.potentials , .inr (.inl ?_), rfl⟩
    have z := Ask2.po 
    exact z
  · rename_i e
    simp only [List.cons.injEq, and_true] at e
    obtain ⟨rfl, rfl⟩ := e
    refine .inr ⟨.equivalenceFactor , .inr (.inl ?_), rfl⟩
    have z := Ask2.fa 
    exact z
  · rename_i e
    simp only [List.cons.injEq, and_true] at e
    obtain ⟨rfl, rfl⟩ := e
    refine .inr ⟨.sameOptimalActions , .inr (.inl ?_), rfl⟩
    have z := Ask2.sa 
    exact z
  · rename_i a e
    simp only [List.cons.injEq, and_true] at e
    obtain ⟨rfl, rfl⟩ := e
    have h1 := h
    refine .inr ⟨.optimalValues a.toNat, .inr (.inl ?_), rfl⟩
    have z := Ask2.ov a.toNat
    rw [← nat_of h1] at z
    exact z
  · rename_i a e
    simp only [List.cons.injEq, and_true] at e
    obtain ⟨rfl, rfl⟩ := e
    have h1 := h
    refine .inr ⟨.optimalPolicy a.toNat, .inr (.inl ?_), rfl⟩
    have z := Ask2.op a.toNat
    rw [← nat_of h1] at z
    exact z
  · rename_i e
    simp only [List.cons.injEq, and_true] at e
    obtain ⟨rfl, rfl⟩ := e
    refine .inr ⟨.regrets , .inr (.inl ?_), rfl⟩
    have z := Ask2.re 
    exact z
  · rename_i a b e
    simp only [List.cons.injEq, and_true] at e
    obtain ⟨rfl, rfl⟩ := e
    simp only [Bool.and_eq_true] at h
    obtain ⟨h1, h2⟩ := h
    refine .inr ⟨.addGuarantee a.toNat b.toNat, .inr (.inr (.inl ?_)), rfl⟩
    have z := Ask3.ad a.toNat b.toNat
    rw [← nat_of h1, ← nat_of h2] at z
    exact z
  · rename_i a e
    simp only [List.cons.injEq, and_true] at e
    obtain ⟨rfl, rfl⟩ := e
    have h1 := h
    refine .inr ⟨.removeGuarantee a.toNat, .inr (.inr (.inl ?_)), rfl⟩
    have z := Ask3.rm a.toNat
    rw [← nat_of h1] at z
    exact z
  · rename_i a e
    simp only [List.cons.injEq, and_true] at e
    obtain ⟨rfl, rfl⟩ := e
    have h1 := h
    refine .inr ⟨.getGuarantee a.toNat, .inr (.inr (.inl ?_)), rfl⟩
    have z := Ask3.ge a.toNat
    rw [← nat_of h1] at z
    exact z
  · rename_i a b e
    simp only [List.cons.injEq, and_true] at e
    obtain ⟨rfl, rfl⟩ := e
    simp only [Bool.and_eq_true] at h
    obtain ⟨h1, h2⟩ := h
    refine .inr ⟨.checkGuarantee a.toNat b.toNat, .inr (.inr (.inl ?_)), rfl⟩
    have z := Ask3.ch a.toNat b.toNat
    rw [← nat_of h1, ← nat_of h2] at z
    exact z
  · rename_i e
    simp only [List.cons.injEq, and_true] at e
    obtain ⟨rfl, rfl⟩ := e
    refine .inr ⟨.leastRegretBound , .inr (.inr (.inl ?_)), rfl⟩
    have z := Ask3.le 
    exact z
  · rename_i a b l e
    simp only [List.cons.injEq, and_true] at e
    obtain ⟨rfl, rfl⟩ := e
    simp only [Bool.and_eq_true] at h
    obtain ⟨h1, h2, hl, hz⟩ := h
    have hn := nats_of hl
    refine .inr ⟨.runEpisode a.toNat b.toNat (l.map Int.toNat), .inr (.inr (.inr ?_)), rfl⟩
    have z := Ask4.ru a.toNat b.toNat (l.map Int.toNat) (by rw [List.length_map]; exact Nat.le_trans (of_decide_eq_true hz) (by decide))
    rw [← nat_of h1, ← nat_of h2, ← hn] at z
    exact z
  · rename_i a b l e
    simp only [List.cons.injEq, and_true] at e
    obtain ⟨rfl, rfl⟩ := e
    simp only [Bool.and_eq_true] at h
    obtain ⟨h1, h2, hl, hz⟩ := h
    have hn := nats_of hl
    refine .inr ⟨.previewEpisode a.toNat b.toNat (l.map Int.toNat), .inr (.inr (.inr ?_)), rfl⟩
    have z := Ask4.pr a.toNat b.toNat (l.map Int.toNat) (by rw [List.length_map]; exact Nat.le_trans (of_decide_eq_true hz) (by decide))
    rw [← nat_of h1, ← nat_of h2, ← hn] at z
    exact z
  · rename_i a e
    simp only [List.cons.injEq, and_true] at e
    obtain ⟨rfl, rfl⟩ := e
    have h1 := h
    refine .inr ⟨.getEpisode a.toNat, .inr (.inr (.inr ?_)), rfl⟩
    have z := Ask4.ge a.toNat
    rw [← nat_of h1] at z
    exact z
  · rename_i e
    simp only [List.cons.injEq, and_true] at e
    obtain ⟨rfl, rfl⟩ := e
    refine .inr ⟨.totalReturns , .inr (.inr (.inr ?_)), rfl⟩
    have z := Ask4.to 
    exact z
  · rename_i a e
    simp only [List.cons.injEq, and_true] at e
    obtain ⟨rfl, rfl⟩ := e
    have h1 := h
    refine .inr ⟨.correctedReturn a.toNat, .inr (.inr (.inr ?_)), rfl⟩
    have z := Ask4.co a.toNat
    rw [← nat_of h1] at z
    exact z
  · rename_i e
    simp only [List.cons.injEq, and_true] at e
    obtain ⟨rfl, rfl⟩ := e
    refine .inr ⟨.status , .inr (.inr (.inr ?_)), rfl⟩
    have z := Ask4.st 
    exact z
  · cases h
end Sw
namespace Sw
open Kp389 (Process)
/-! ### monitors stay well -/
theorem StOk.change {p p' : Process} (h1 : p'.stateCount = p.stateCount) (h2 : p'.actionCount = p.actionCount) : ∀ {s : Nat} {l : List (Nat × Nat)}, StOk p s l → StOk p' s l
  | s, [], h => by show s < p'.stateCount; rw [h1]; exact h
  | s, (a, q) :: r, h => ⟨by rw [h1]; exact h.1, by rw [h2]; exact h.2.1, StOk.change h1 h2 h.2.2⟩
theorem EpOk.change {p p' : Process} (h1 : p'.stateCount = p.stateCount) (h2 : p'.actionCount = p.actionCount) {e : Kp390.Episode} (h : EpOk p e) : EpOk p' e := ⟨h.ok.change h1 h2, h.len, h.q0, h.q1⟩
theorem MWf.change {m : Kp390.Monitor} (W : MWf m) {p' : Process} (P : PWf p') (h1 : p'.stateCount = m.process.stateCount) (h2 : p'.actionCount = m.process.actionCount) : MWf { m with process := p' } := ⟨P, W.gl, W.el, fun e he => (W.eo e he).change h1 h2⟩
/-- what a change may leave -/
structure Like (p p' : Process) : Prop where
  w : PWf p'
  s : p'.stateCount = p.stateCount
  a : p'.actionCount = p.actionCount
theorem Like.refl {p : Process} (W : PWf p) : Like p p := ⟨W, rfl, rfl⟩
theorem like_rew {p : Process} (W : PWf p) {t : Nat} {l : List Int} (hl : l.length = p.stateCount * p.actionCount * p.stateCount) (hb : ∀ x ∈ l, -100000 ≤ x ∧ x ≤ 100000) : Like p (Kp389.withRewards p t l) := ⟨pwf_rew W hl hb, by unfold Kp389.withRewards; split <;> rfl, by unfold Kp389.withRewards; split <;> rfl⟩
theorem chg_wf {m : Kp390.Monitor} {c : Kp389.Call} {m' : Kp390.Monitor} (W : MWf m) (h : ∀ p', (Kp389.step (some m.process) c).1 = some p' → Like m.process p') (e : some m' = (Kp390.changeProcess m c).1) : MWf m' := by
  unfold Kp390.changeProcess at e
  simp only [] at e
  split at e
  · cases e; exact W
  · split at e
    · have e' := Option.some.inj e
      subst e'
      cases hs : (Kp389.step (some m.process) c).1 with
      | none =>
        show MWf { m with process := m.process }
        exact W
      | some p' =>
        have L := h p' hs
        exact W.change L.w L.s L.a
    · cases e; exact W
theorem limit_bd {l : List Int} (h : Kp389.withinLimit l = true) : ∀ x ∈ l, -100000 ≤ x ∧ x ≤ 100000 := fun x hx => by
  have := List.all_eq_true.mp h x hx
  simp [Kp389.rewardLimit] at this
  exact ⟨of_decide_eq_true this.1, of_decide_eq_true this.2⟩
theorem step1_like {p : Process} (W : PWf p) {x : Int} {n : List Int} {c : Kp390.Call} (h : Ask1 x n c) {m m' : Kp390.Monitor} (hm : m.process = p) (WM : MWf m) (e : some m' = (Kp390.step (some m) c).1) : MWf m' := by
  subst hm
  cases h with
  | r t s a q l hl =>
    refine chg_wf WM (fun p' hp => ?_) e
    rw [step_setR] at hp
    cases hb : (Kp389.isTable t && Kp389.isState m.process s && Kp389.isAction m.process a && Kp389.isState m.process q) with
    | false => rw [hb, if_pos rfl] at hp; cases hp; exact .refl W
    | true =>
      rw [hb, if_neg (by decide)] at hp
      match l, hp with
      | [v], hp =>
        simp only [] at hp
        cases hv : Kp389.validReward v with
        | false => rw [hv, if_neg (by decide)] at hp; cases hp; exact .refl W
        | true =>
          rw [hv, if_pos rfl] at hp
          cases hp
          refine like_rew W (by rw [List.length_set, W.rlen]) fun x hx => ?_
          rcases List.mem_or_eq_of_mem_set hx with hx | rfl
          · exact W.rbd t x hx
          · unfold Kp389.validReward at hv
            rw [Bool.and_eq_true] at hv
            have := of_decide_eq_true hv.1
            have := of_decide_eq_true hv.2
            omega
      | [], hp => cases hp; exact .refl W
      | _ :: _ :: _, hp => cases hp; exact .refl W
  | rs t l hl =>
    refine chg_wf WM (fun p' hp => ?_) e
    rw [step_setRs] at hp
    split at hp
    · cases hp; exact .refl W
    · split at hp
      · cases hp; exact .refl W
      · rename_i h2
        cases hp
        have h3 : l.length = Kp389.rewardCount m.process := Classical.byContradiction fun z => h2 (.inl z)
        have h4 : l.all Kp389.validReward = true := by
          cases z : l.all Kp389.validReward with
          | true => rfl
          | false => exact absurd (.inr z) h2
        refine like_rew W h3 fun x hx => ?_
        have := valid_bd h4 x hx
        omega
  | cp t =>
    refine chg_wf WM (fun p' hp => ?_) e
    rw [step_copy] at hp
    split at hp
    · cases hp; exact like_rew W (W.rlen _) (W.rbd _)
    · cases hp; exact .refl W
  | sh t l hl =>
    refine chg_wf WM (fun p' hp => ?_) e
    rw [step_shape] at hp
    split at hp
    · cases hp; exact .refl W
    · split at hp
      · cases hp; exact .refl W
      · split at hp
        · rename_i h3
          cases hp
          exact like_rew W (shape_len _ _ _) (limit_bd h3)
        · cases hp; exact .refl W
  | sc t k =>
    refine chg_wf WM (fun p' hp => ?_) e
    rw [step_scale] at hp
    split at hp
    · cases hp; exact .refl W
    · split at hp
      · cases hp; exact .refl W
      · split at hp
        · rename_i h3
          cases hp
          exact like_rew W (by rw [List.length_map]; exact W.rlen t) (limit_bd h3)
        · cases hp; exact .refl W
  | tr s a l hl =>
    refine chg_wf WM (fun p' hp => ?_) e
    rw [step_setT] at hp
    split at hp
    · cases hp; exact .refl W
    · split at hp
      · rename_i h2
        cases hp
        unfold Kp389.validWeights at h2
        rw [Bool.and_eq_true, Bool.and_eq_true, sum_zero] at h2
        have v1 : l.length = m.process.stateCount := of_decide_eq_true h2.1.1
        have v2 : ∀ x ∈ l, x ≤ 9 := fun x hx => of_decide_eq_true (List.all_eq_true.mp h2.1.2 x hx)
        have v3 : 0 < l.sum := by have := h2.2; simp at this; omega
        refine ⟨pwf_tr W (by rw [List.length_set, W.tl]) fun r hr => ?_, rfl, rfl⟩
        rcases List.mem_or_eq_of_mem_set hr with hr | rfl
        · exact W.tw r hr
        · exact ⟨v1, v2, v3⟩
      · cases hp; exact .refl W
  | dt l hl =>
    refine chg_wf WM (fun p' hp => ?_) e
    rw [step_setD] at hp
    split at hp
    · rename_i h2
      cases hp
      unfold Kp389.validWorld at h2
      rw [Bool.and_eq_true] at h2
      refine ⟨pwf_tr W (tr := l.map fun q => onlyAt m.process.stateCount q) (by rw [List.length_map]; exact of_decide_eq_true h2.1) fun r hr => ?_, rfl, rfl⟩
      obtain ⟨q, hq, rfl⟩ := List.mem_map.mp hr
      exact only_ok (of_decide_eq_true (List.all_eq_true.mp h2.2 q hq))
    · cases hp; exact .refl W
theorem step_wf {m m' : Kp390.Monitor} (W : MWf m) {x : Int} {n : List Int} {c : Kp390.Call} (h : AskAny x n c) (e : some m' = (Kp390.step (some m) c).1) : MWf m' := by
  rcases h with h | h | h | h
  · exact step1_like W.pw h rfl W e
  · cases h <;> (have e' : some m' = some m := e; cases e'; exact W)
  · cases h with
    | ad k v =>
      rw [step_addG] at e
      split at e
      · cases e; exact W
      · split at e
        · cases e; exact W
        · split at e
          · cases e; exact W
          · split at e
            · cases e; exact W
            · rename_i h4
              cases e
              unfold Kp390.maxGuarantees at h4
              exact ⟨W.pw, by show (m.guarantees ++ [_]).length ≤ 3; rw [List.length_append, List.length_singleton]; omega, W.el, W.eo⟩
    | rm i =>
      rw [step_remG] at e
      split at e
      · cases e; exact W
      · cases e
        exact ⟨W.pw, Nat.le_trans (List.length_eraseIdx_le _ _) W.gl, W.el, W.eo⟩
    | ge i => have e' : some m' = some m := e; cases e'; exact W
    | ch a b => have e' : some m' = some m := e; cases e'; exact W
    | le => have e' : some m' = some m := e; cases e'; exact W
  · cases h with
    | ru t s l hl =>
      rw [step_run] at e
      cases hc : Kp390.episodeError m t s l with
      | some code => rw [hc] at e; cases e; exact W
      | none =>
        rw [hc] at e
        simp only [] at e
        split at e
        · cases e; exact W
        · rename_i h4
          cases e
          unfold Kp390.maxEpisodes at h4
          obtain ⟨h1, h2, h3, h5⟩ := err_none hc
          refine ⟨W.pw, W.gl, by show (m.episodes ++ [_]).length ≤ 12; rw [List.length_append, List.length_singleton]; omega, fun ep he => ?_⟩
          have he' : ep ∈ m.episodes ++ [Kp390.episodeOf m.process t s l] := he
          rcases List.mem_append.mp he' with he | he
          · exact W.eo ep he
          · rw [List.mem_singleton.mp he]
            exact ep_ok W.pw h2 h3 h5
    | pr t s l hl => have e' : some m' = some m := e; cases e'; exact W
    | ge i => have e' : some m' = some m := e; cases e'; exact W
    | to => have e' : some m' = some m := e; cases e'; exact W
    | co i => have e' : some m' = some m := e; cases e'; exact W
    | st => have e' : some m' = some m := e; cases e'; exact W
theorem step_some {m : Kp390.Monitor} {x : Int} {n : List Int} {c : Kp390.Call} (h : AskAny x n c) : ∃ m', some m' = (Kp390.step (some m) c).1 := by
  have chg : ∀ c, ∃ m', some m' = (Kp390.changeProcess m c).1 := fun c => by
    unfold Kp390.changeProcess
    simp only []
    split
    · exact ⟨m, rfl⟩
    · split
      · exact ⟨_, rfl⟩
      · exact ⟨m, rfl⟩
  rcases h with h | h | h | h
  · cases h <;> exact chg _
  · cases h <;> exact ⟨m, rfl⟩
  · cases h with
    | ad k v =>
      rw [step_addG]
      split
      · exact ⟨_, rfl⟩
      · split
        · exact ⟨_, rfl⟩
        · split
          · exact ⟨_, rfl⟩
          · split <;> exact ⟨_, rfl⟩
    | rm i => rw [step_remG]; split <;> exact ⟨_, rfl⟩
    | ge i => exact ⟨m, rfl⟩
    | ch a b => exact ⟨m, rfl⟩
    | le => exact ⟨m, rfl⟩
  · cases h with
    | ru t s l hl =>
      rw [step_run]
      cases Kp390.episodeError m t s l with
      | some code => exact ⟨_, rfl⟩
      | none => simp only []; split <;> exact ⟨_, rfl⟩
    | pr t s l hl => exact ⟨m, rfl⟩
    | ge i => exact ⟨m, rfl⟩
    | to => exact ⟨m, rfl⟩
    | co i => exact ⟨m, rfl⟩
    | st => exact ⟨m, rfl⟩
theorem step_none {x : Int} {n : List Int} {c : Kp390.Call} (h : AskAny x n c) : Kp390.step none c = (none, Kp390.single (-11)) := by
  rcases h with h | h | h | h <;> cases h <;> rfl
theorem ask_ne {x : Int} {n : List Int} {c : Kp390.Call} (h : AskAny x n c) : x ≠ 0 := by
  rcases h with h | h | h | h
  · have := ask1_rg h; omega
  · have := ask2_rg h; omega
  · have := ask3_rg h; omega
  · have := ask4_rg h; omega
/-! creation -/
def isP (a b c d : Nat) : Bool := (decide (2 ≤ (a : Int)) && decide ((a : Int) ≤ 4)) && ((decide (1 ≤ (b : Int)) && decide ((b : Int) ≤ 3)) && (decide (1 ≤ (c : Int)) && (decide ((c : Int) < (d : Int)) && decide ((d : Int) ≤ 10))))
theorem isP_iff (a b c d : Nat) : isP a b c d = true ↔ ¬ (a < 2 ∨ 4 < a ∨ b < 1 ∨ 3 < b ∨ c < 1 ∨ d ≤ c ∨ 10 < d) := by
  unfold isP
  simp only [Bool.and_eq_true, decide_eq_true_eq]
  omega
theorem create_ok {st : Kp390.State} {a b c d : Nat} (h : isP a b c d = true) : Kp390.step st (.create a b c d) = (some ⟨Kp389.newProcess a b c d, [], []⟩, Kp390.single (Kp389.rewardCount (Kp389.newProcess a b c d) : Nat)) := by
  have h' := (isP_iff a b c d).mp h
  have : Kp389.step none (.create a b c d) = (some (Kp389.newProcess a b c d), Kp389.single (a * b * a : Nat)) := if_neg h'
  show (match (Kp389.step none (.create a b c d)).1 with | none => (st, Kp390.single (-22)) | some p => (some (⟨p, [], []⟩ : Kp390.Monitor), Kp390.single (Kp389.rewardCount p : Nat))) = _
  rw [this]
theorem create_no {st : Kp390.State} {a b c d : Nat} (h : isP a b c d = false) : Kp390.step st (.create a b c d) = (st, Kp390.single (-22)) := by
  have h' : a < 2 ∨ 4 < a ∨ b < 1 ∨ 3 < b ∨ c < 1 ∨ d ≤ c ∨ 10 < d := Classical.byContradiction fun z => by rw [(isP_iff a b c d).mpr z] at h; cases h
  have : Kp389.step none (.create a b c d) = (none, Kp389.single (-22)) := if_pos h'
  show (match (Kp389.step none (.create a b c d)).1 with | none => (st, Kp390.single (-22)) | some p => (some (⟨p, [], []⟩ : Kp390.Monitor), Kp390.single (Kp389.rewardCount p : Nat))) = _
  rw [this]
theorem new_wf {a b c d : Nat} (h : isP a b c d = true) : PWf (Kp389.newProcess a b c d) := by
  have h' := (isP_iff a b c d).mp h
  have hl : ((List.range a).flatMap (fun s => List.replicate b ((List.range a).map fun q => if q = s then 1 else 0))).length = a * b := by
    rw [flat_len (n := b) (fun _ => by simp), List.length_range]
  refine ⟨by show 2 ≤ a; omega, by show a ≤ 4; omega, by show 1 ≤ b; omega, by show b ≤ 3; omega, by show 1 ≤ c; omega, by show c < d; omega, by show d ≤ 10; omega, by simp [Kp389.newProcess], by simp [Kp389.newProcess], fun x hx => ?_, fun x hx => ?_, hl, fun r hr => ?_⟩
  · have : x = 0 := List.eq_of_mem_replicate hx
    subst this; decide
  · have : x = 0 := List.eq_of_mem_replicate hx
    subst this; decide
  · obtain ⟨s, hs, hr⟩ := List.mem_flatMap.mp hr
    have : r = onlyAt a s := List.eq_of_mem_replicate hr
    subst this
    exact only_ok (List.mem_range.mp hs)
theorem mon_new {a b c d : Nat} (h : isP a b c d = true) : MWf ⟨Kp389.newProcess a b c d, [], []⟩ := ⟨new_wf h, Nat.zero_le _, Nat.zero_le _, fun _ h => by cases h⟩
end Sw
namespace Sw
open PySem PySem.Spec PyProof.Rows L2
/-! ### states told by a property -/
def SI (K : PySem.W.Frag) (C : Addr) (H0 A0 : Hp) (M : Mt) (F : Fm) (δ : List SD) : L2.St → Hp → Prop := fun σ A => ∃ H, StA K C M F H0 A0 H A σ δ
def HS (X : Cx) (st : Stmt) (I J : L2.St → Hp → Prop) : Prop := PS X st fun E σ A => I σ A ∧ ∀ σ' A', J σ' A' → E.nx σ' A'
def HB (X : Cx) (sts : List Stmt) (I J : L2.St → Hp → Prop) : Prop := PSs X sts fun E σ A => I σ A ∧ ∀ σ' A', J σ' A' → E.nx σ' A'
section
variable {C CM : Addr} {X : Cx} {M : Mt} {F F' : Fm} {δ δ' : List SD} {st : Stmt} {sts rest ba bb : List Stmt} {c e : Expr} {pos : Pos} {I I' J J' L : L2.St → Hp → Prop} {H0 A0 : Hp}
theorem hs_of (h : DS C X M st F δ (.nx F' δ')) : HS X st (SI X.K C H0 A0 M F δ) (SI X.K C H0 A0 M F' δ') := ps_imp h fun E σ A ⟨⟨H, s⟩, q⟩ => ⟨H0, A0, H, s, fun σ' H' A' s' => q σ' A' ⟨H', s'⟩⟩
theorem hb_of (h : DB C X M sts F δ (.nx F' δ')) : HB X sts (SI X.K C H0 A0 M F δ) (SI X.K C H0 A0 M F' δ') := pss_imp h fun E σ A ⟨⟨H, s⟩, q⟩ => ⟨H0, A0, H, s, fun σ' H' A' s' => q σ' A' ⟨H', s'⟩⟩
theorem hb_nil : HB X [] I I := pss_imp pss_nil fun E σ A ⟨h, q⟩ => q σ A h
theorem hb_cons (h1 : HS X st I J) (h2 : HB X rest J L) : HB X (st :: rest) I L := pss_imp (pss_cons h1 h2) fun E σ A ⟨h, q⟩ => ⟨h, fun σ' A' j => ⟨j, q⟩⟩
theorem hb_pre (h : HB X sts I J) (i : ∀ σ A, I' σ A → I σ A) : HB X sts I' J := pss_imp h fun E σ A ⟨a, q⟩ => ⟨i σ A a, q⟩
theorem hb_post (h : HB X sts I J) (i : ∀ σ A, J σ A → J' σ A) : HB X sts I J' := pss_imp h fun E σ A ⟨a, q⟩ => ⟨a, fun σ' A' j => q σ' A' (i σ' A' j)⟩
theorem hb_ex {ι : Type} {Ii : ι → L2.St → Hp → Prop} (h : ∀ i, HB X sts (Ii i) J) : HB X sts (fun σ A => ∃ i, Ii i σ A) J := ⟨fun pins s σ H E I ⟨⟨i, a⟩, q⟩ => (h i).run pins s σ H E I ⟨a, q⟩⟩
theorem hs_ifT (hc : DT C X c F δ true) (ha : HB X ba (SI X.K C H0 A0 M F δ) J) : HS X (.If c ba bb pos) (SI X.K C H0 A0 M F δ) J :=
  ps_imp (ps_if (u := fun _ _ _ => False) hc ha ⟨fun _ _ _ _ _ _ z => z.elim⟩) fun E σ A ⟨⟨H, s⟩, q⟩ => ⟨M, A0, H, s.ha, s.f, s.sl, fun H' A' n => ⟨⟨H', s.nx n⟩, q⟩⟩
end
/-! ### own lists beside what a frame tells -/
def FMut (M : Mt) (F : Fm) : Prop := ∀ (H A : Hp) (p : Addr) (ys : List V), ¬ M p → F.P H A → F.P H (upd A p (.lst ys))
theorem fmut0 {M : Mt} : FMut M F0 := fun _ _ _ _ _ _ => True.intro
theorem fmutM {K : PySem.W.Frag} {C CM a g e : Addr} {m : Kp390.Monitor} : FMut (Mt3 a g e) (MonF K C CM a g e m) := fun H A p ys hp f => by
  obtain ⟨⟨dx, pa, xs, zs, h1, h2, h3, h4, h5, h6⟩, i1, i2, i3, i4, i5, i6⟩ := f
  have pa' : a ≠ p := fun z => hp (.inl z.symm)
  have pg : g ≠ p := fun z => hp (.inr (.inl z.symm))
  have pe : e ≠ p := fun z => hp (.inr (.inr z.symm))
  exact ⟨⟨dx, pa, xs, zs, by rw [upd_ne pa']; exact h1, by rw [upd_ne pg]; exact h2, by rw [upd_ne pe]; exact h3, h4, h5, h6⟩, i1, i2, i3, i4, i5, i6⟩
theorem StA.mutF {K : PySem.W.Frag} {C : Addr} {M : Mt} {F : Fm} {H0 A0 H A : Hp} {σ : L2.St} {δ : List SD} (hF : FMut M F) (s : StA K C M F H0 A0 H A σ δ) {i : Nat} {ds gs : List D} (h : δ[i]? = some (.own ds)) {p : Addr} {ys : List V} (hs : σ[i]? = some (some (.ref p))) (r : RpAll K C H ys gs) : StA K C M F H0 A0 H (upd A p (.lst ys)) σ (δ.set i (.own gs)) := by
  obtain ⟨p', xs, e1, h1, h2, h3, h4, h5⟩ := s.sl.own h
  rw [hs] at e1
  cases e1
  refine ⟨s.hh, fun b o z g => ?_, fun b z => ?_, s.ha.mut h1, s.sep, hF _ _ _ _ h5 s.f, s.sl.mut h hs h1 h4 h5 r⟩
  · rw [upd_ne (ne_of_none z h4)]; exact s.aa b o z g
  · by_cases hb : b = p
    · subst hb; exact absurd h4 z
    · rw [upd_ne hb]; exact s.at0 b z
theorem own_at {K : PySem.W.Frag} {C : Addr} {M : Mt} {F : Fm} {H0 A0 H A : Hp} {σ : L2.St} {δ : List SD} (s : StA K C M F H0 A0 H A σ δ) {i : Nat} {ds : List D} (hi : δ[i]? = some (.own ds)) : ∃ p xs, σ[i]? = some (some (.ref p)) ∧ A p = some (.lst xs) ∧ RpAll K C H xs ds := by
  obtain ⟨p, xs, e1, h1, h2, h3, h4, h5⟩ := s.sl.own hi
  exact ⟨p, xs, e1, h2, h3⟩
section
variable {C CM : Addr} {X : Cx} {M : Mt} {F : Fm} {δ : List SD} {e : Expr} {pos : Pos}
theorem ds_appendF (hF : FMut M F) (i : Nat) {x : Str} {ds : List D} {d : D} {p apos : Pos} (h : DE C X e F δ d) (hl : ds.length < sizeLine) (hi : δ[i]? = some (.own ds) := by rfl) (hN : X.N[i]? = some x := by rfl) (hv : Vis X.env.scope x := by first | exact Or.inl rfl | exact Or.inr (Or.inl rfl) | exact Or.inr (Or.inr rfl))
    (hse : starEach (e :: []) X.env = (false, eval e X.env) :: starEach [] X.env := by rfl) (hsw : swapsWith (.Call (.Attribute (.Name x p) "append" apos) [e] [] pos) none pos.line X.env = pure false := by rfl)
    (hd : (x == ("__debug__" : Str)) = false := by decide) (hcd : (x == ("__classdict__" : Str)) = false := by decide)
    (hbase : attributeBase (.Name x p) "append" X.env (eval (.Name x p) X.env) = eval (.Name x p) X.env := by rfl)
    (hfew : ((backTo pos (starEach [e] X.env)).all (fun x => !x.1) && (backToKw pos (keywordEach [] X.env)).all (fun x => x.1.isSome)
      && decide (([e] : List Expr).length + ([] : List Keyword).length + (if ([] : List Keyword).isEmpty then 0 else 1) < 30)) = true := by rfl)
    (hline : (apos.endLine == pos.line) = true := by rfl) : DS C X M (.Expr (.Call (.Attribute (.Name x p) "append" apos) [e] [] pos) pos) F δ (.nx F (δ.set i (.own (ds ++ [d])))) :=
  ps_imp (ps_expr (pe_bm PySem.F.plainAttrs_list PySem.F.slot_list_append PySem.F.type_list_append mt_append (pe_var hN hv hd hcd) (da_cons h da_nil hse) hbase hfew hline hse rfl) hsw) fun E σ A ⟨H0, A0, H, s, q⟩ => by
  obtain ⟨a, xs, e1, e2, e3⟩ := own_at s hi
  refine ⟨.ref a, e1, .inl ⟨rfl, xs, SqL.of e2⟩, M, A0, H, s.ha, s.f, s.sl, fun vs H' A' n r => ?_⟩
  have s' := s.nx n
  match vs, r with
  | [v], r =>
    simp only [RpAll] at r
    have e2' := n.aa _ _ e2
    exact ⟨a, xs, v, rfl, rfl, e2', by rw [rpAll_len e3]; exact hl, q _ _ _ (s'.mutF hF hi e1 (rpAll_app (rpAll_mono n.hh _ _ e3) (by simp only [RpAll]; exact ⟨r.1, True.intro⟩)))⟩
  | [], r => simp only [RpAll] at r
  | _ :: _ :: _, r => simp only [RpAll] at r; exact r.2.elim
theorem ds_extendF (hF : FMut M F) (i : Nat) {x : Str} {ds gs : List D} {p apos : Pos} (h : DE C X e F δ (.lst gs)) (hl : ds.length + gs.length ≤ sizeLine) (hi : δ[i]? = some (.own ds) := by rfl) (hN : X.N[i]? = some x := by rfl) (hv : Vis X.env.scope x := by first | exact Or.inl rfl | exact Or.inr (Or.inl rfl) | exact Or.inr (Or.inr rfl))
    (hse : starEach (e :: []) X.env = (false, eval e X.env) :: starEach [] X.env := by rfl) (hsw : swapsWith (.Call (.Attribute (.Name x p) "extend" apos) [e] [] pos) none pos.line X.env = pure false := by rfl)
    (hd : (x == ("__debug__" : Str)) = false := by decide) (hcd : (x == ("__classdict__" : Str)) = false := by decide)
    (hbase : attributeBase (.Name x p) "extend" X.env (eval (.Name x p) X.env) = eval (.Name x p) X.env := by rfl)
    (hfew : ((backTo pos (starEach [e] X.env)).all (fun x => !x.1) && (backToKw pos (keywordEach [] X.env)).all (fun x => x.1.isSome)
      && decide (([e] : List Expr).length + ([] : List Keyword).length + (if ([] : List Keyword).isEmpty then 0 else 1) < 30)) = true := by rfl)
    (hline : (apos.endLine == pos.line) = true := by rfl) : DS C X M (.Expr (.Call (.Attribute (.Name x p) "extend" apos) [e] [] pos) pos) F δ (.nx F (δ.set i (.own (ds ++ gs)))) :=
  ps_imp (ps_expr (pe_bm PySem.F.plainAttrs_list PySem.F.slot_list_extend PySem.F.type_list_extend mt_extend (pe_var hN hv hd hcd) (da_cons h da_nil hse) hbase hfew hline hse rfl) hsw) fun E σ A ⟨H0, A0, H, s, q⟩ => by
  obtain ⟨a, xs, e1, e2, e3⟩ := own_at s hi
  refine ⟨.ref a, e1, .inl ⟨rfl, xs, SqL.of e2⟩, M, A0, H, s.ha, s.f, s.sl, fun vs H' A' n r => ?_⟩
  have s' := s.nx n
  match vs, r with
  | [v], r =>
    simp only [RpAll, Rp] at r
    obtain ⟨⟨b, ys, f1, f2, f3⟩, _⟩ := r
    have e2' := n.aa _ _ e2
    exact ⟨a, b, xs, ys, rfl, by rw [f1], e2', n.ha _ _ f2, by rw [rpAll_len e3, rpAll_len f3]; exact hl, q _ _ _ (s'.mutF hF hi e1 (rpAll_app (rpAll_mono n.hh _ _ e3) f3))⟩
  | [], r => simp only [RpAll] at r
  | _ :: _ :: _, r => simp only [RpAll] at r; exact r.2.elim
end
/-! ### a monitor is made, a monitor is forgotten -/
theorem StA.lose {K : PySem.W.Frag} {C CM a g e : Addr} {m : Kp390.Monitor} {H0 A0 H A : Hp} {σ : L2.St} {δ δ' : List SD} (s : StA K C (Mt3 a g e) (MonF K C CM a g e m) H0 A0 H A σ δ) (ha : A0 a = none) (hg : A0 g = none) (he : A0 e = none) (l : SLe δ δ') : StA K C M0 F0 H0 A0 H A σ δ' := by
  refine ⟨s.hh, fun b o h _ => s.aa b o h fun z => ?_, s.at0, s.ha, s.sep, True.intro, ?_⟩
  · rcases z with z | z | z <;> subst z
    · rw [ha] at h; cases h
    · rw [hg] at h; cases h
    · rw [he] at h; cases h
  · refine Slots.forget (δ := δ) ⟨s.sl.len, fun i t ht => ?_, s.sl.apart⟩ l
    have h := s.sl.at_ i t ht
    cases t with
    | un => cases (σ[i]?).getD none <;> exact True.intro
    | dat d => cases q : (σ[i]?).getD none <;> rw [q] at h <;> exact h
    | own ds =>
      cases q : (σ[i]?).getD none with
      | none => rw [q] at h; exact h.elim
      | some v =>
        rw [q] at h
        obtain ⟨p, xs, e1, h1, h2, h3, h4, h5⟩ := h
        exact ⟨p, xs, e1, h1, h2, h3, h4, id⟩
def MkM (P : Program) (w : World) (K : PySem.W.Frag) (mg : Str → Option Value) (base : Heap) (k : Nat) (C CM : Addr) : Prop :=
  ∃ f fd ps, Mk K CM f ∧ FnOk P w K mg base CX0 k f fd ps (spMI C CM) ∧ mg "Monitor" = some (.ref CM) ∧ Binds K fd ps []
/-- the monitor of an answer's turn -/
def SM (K : PySem.W.Frag) (C CM : Addr) (H0 A0 : Hp) (m : Kp390.Monitor) (δ : Addr → List SD) : L2.St → Hp → Prop := fun σ A => ∃ q : Addr × Addr × Addr, SI K C H0 A0 (Mt3 q.1 q.2.1 q.2.2) (MonF K C CM q.1 q.2.1 q.2.2 m) (δ q.1) σ A ∧ A0 q.1 = none ∧ A0 q.2.1 = none ∧ A0 q.2.2 = none
section
variable {C CM : Addr} {X : Cx} {δ : List SD} {b : Expr} {pos cpos p : Pos} {k : Nat} {H0 A0 : Hp}
theorem hs_make (i : Nat) {y : Str} {pos' : Pos} {pr : Kp389.Process} (G : MkM X.prog X.w X.K X.mg X.base k C CM) (hr : Room (k + 1) X.A) (hb : DE C X b F0 δ (.proc pr)) (hN : X.N.Nodup) (hi : X.N[i]? = some y := by rfl) (hx : Loc X.env.scope y := by first | exact Or.inl rfl | exact Or.inr rfl) (hg : Gl X "Monitor" := by rfl)
    (he : starEach (b :: []) X.env = (false, eval b X.env) :: starEach [] X.env := by rfl) (hpl : (backTo cpos (starEach [] X.env)).any (·.1) = false := by rfl) (hs : swapsWith (.Call (.Name "Monitor" p) [b] [] cpos) (some (.Name y pos')) pos.line X.env = pure false := by rfl)
    (hf : X.fn y = true ∨ X.env.scope.names.lookup y = some .local := by first | exact .inl rfl | exact .inr rfl) :
    HS X (.Assign [.Name y pos'] (.Call (.Name "Monitor" p) [b] [] cpos) pos) (SI X.K C H0 A0 M0 F0 δ) (SM X.K C CM H0 A0 ⟨pr, [], []⟩ fun a => δ.set i (.dat (.raw (.ref a)))) := by
  obtain ⟨f, fd, ps, M, G, hm, hbn⟩ := G
  refine ps_imp (ps_set hN hi hx (pe_make M G hr hg hm hbn .nil pass0 (da_cons hb da_nil he) (by decide) he hpl) hs hf) fun E σ A ⟨⟨H, s⟩, q⟩ => ⟨M0, A0, H, s.ha, s.f, s.sl, fun vs H1 A1 n r => ?_⟩
  have s1 := s.nx n
  match vs, r with
  | [v], r =>
    simp only [RpAll, Rp] at r
    obtain ⟨⟨pa, rfl, hp⟩, _⟩ := r
    intro x dx hx1 hdx hne
    refine ⟨x, dx, _, rfl, upd_same, fun g e hg' he' hge => ⟨rfl, ?_⟩⟩
    have gx : g ≠ x := fun z => by subst z; rw [upd_same] at hg'; cases hg'
    have ex : e ≠ x := fun z => by subst z; rw [upd_same] at he'; cases he'
    rw [upd_ne gx] at hg'
    rw [upd_ne ex] at he'
    have gd : g ≠ dx := fun z => by subst z; rw [upd_same] at hg'; cases hg'
    have ed : e ≠ dx := fun z => by subst z; rw [upd_same] at he'; cases he'
    rw [upd_ne gd] at hg'
    rw [upd_ne ed] at he'
    have new : ∀ b o, A1 b = some o → b ≠ x ∧ b ≠ g ∧ b ≠ e ∧ b ≠ dx := fun b o hb => ⟨(fun z => by subst z; rw [hx1] at hb; cases hb), (fun z => by subst z; rw [hg'] at hb; cases hb), (fun z => by subst z; rw [he'] at hb; cases hb), (fun z => by subst z; rw [hdx] at hb; cases hb)⟩
    have eA : Ex A1 (upd (upd (upd (upd (upd A1 dx (.own x)) x (.ins CM dx [])) g (.lst [])) e (.lst [])) x (.ins CM dx [("process", .ref pa), ("guarantees", .ref g), ("episodes", .ref e)])) := fun b o hb => by
      obtain ⟨n1, n2, n3, n4⟩ := new b o hb
      rw [upd_ne n1, upd_ne n3, upd_ne n2, upd_ne n1, upd_ne n4]
      exact hb
    have a0 : ∀ b, A1 b = none → A0 b = none := fun b hb => by
      cases z : A0 b with
      | none => rfl
      | some o => exact absurd hb (s1.at0 b (by rw [z]; exact fun y => by cases y))
    have hX := s1.ha.free hx1
    have hG := s1.ha.free hg'
    have hE := s1.ha.free he'
    refine q _ _ ⟨(x, g, e), ⟨H1, ?_⟩, a0 x hx1, a0 g hg', a0 e he'⟩
    refine ⟨s1.hh, fun b o h _ => eA _ _ (s1.aa b o h id), fun b h z => s1.at0 b h (eA.free z), s1.ha.trans eA, s1.sep, ?_, ?_⟩
    · exact ⟨⟨dx, pa, [], [], upd_same, by show upd _ x _ g = _; rw [upd_ne gx, upd_ne hge, upd_same], by show upd _ x _ e = _; rw [upd_ne ex, upd_same], hp, by simp only [List.map_nil, RpAll], by simp only [List.map_nil, RpAll]⟩, hX, hG, hE, gx.symm, ex.symm, hge⟩
    · have sl1 := s1.sl.setD (i := i) (v := V.ref x) (d := .raw (.ref x)) (by simp only [Rp])
      refine ⟨sl1.len, fun j t ht => ?_, sl1.apart⟩
      have h := sl1.at_ j t ht
      cases t with
      | un => cases ((σ.set i (some (V.ref x)))[j]?).getD none <;> exact True.intro
      | dat d => cases q : ((σ.set i (some (V.ref x)))[j]?).getD none <;> rw [q] at h <;> exact h
      | own ds =>
        cases q : ((σ.set i (some (V.ref x)))[j]?).getD none with
        | none => rw [q] at h; exact h.elim
        | some v =>
          rw [q] at h
          obtain ⟨p, xs, e1, h1, h2, h3, h4, h5⟩ := h
          obtain ⟨n1, n2, n3, n4⟩ := new p _ h2
          refine ⟨p, xs, e1, h1, eA _ _ h2, h3, h4, fun z => ?_⟩
          rcases z with z | z | z
          · exact n1 z
          · exact n2 z
          · exact n3 z
  | [], r => simp only [RpAll] at r
  | _ :: _ :: _, r => simp only [RpAll] at r; exact r.2.elim
end
end Sw
namespace Sw
open PySem PySem.Spec PyProof.Rows L2
abbrev sA : Stmt := top 88
abbrev nA : List Str := ["calls", "found", "at", "monitor", "word", "end", "n", "told"]
theorem scA : FnScope nA ["calls"] (defScope sA) := ⟨rfl, rfl, rfl, by decide +kernel, rfl, by decide +kernel, by decide +kernel⟩
def wBody : List Stmt := match defBody sA with | _ :: .While _ b _ _ :: _ => b | _ => []
abbrev wSt (j : Nat) : Stmt := wBody.getD j (.Pass ⟨0, 0, 0, 0⟩)
abbrev XA (P : Program) (w : World) (K : PySem.W.Frag) (mg : Str → Option Value) (base : Heap) (f : Addr) (cdv : Value) (A : Around) (outer : List Env) (s : Shared) (H : Hp) (E : XK) : Cx := (cxOf CX0 P w K mg base nA "answers" (defScope sA) f cdv A outer s H E).nox
/-- what the loop leans on -/
structure PGl (P : Program) (w : World) (K : PySem.W.Frag) (mg : Str → Option Value) (base : Heap) (C CM : Addr) : Prop where
  T : MTxt K CM
  PT : PTxt K C
  isp : Cal P w K mg base 1 "is_process" (spD K C R_isp)
  newp : Cal P w K mg base 3 "new_process" (spD K C R_newp)
  make : MkM P w K mg base 1 C CM
  count : MetC P w K mg base 1 C "reward_count" (spD K C R_count)
  ans : Cal P w K mg base 24 "answer" (spM K C CM RAns)
  nCreate : MgI mg "CREATE" 0
  nNo : MgI mg "NO_MONITOR" (-11)
  nOut : MgI mg "OUTSIDE" (-22)
  nLen : MgN mg "len"
/-- what is known besides -/
theorem hb_pre' {X : Cx} {sts : List Stmt} {I J : L2.St → Hp → Prop} {A0 : Hp} {a g e : Addr} (h : HB X sts I J) : HB X sts (fun σ A => I σ A ∧ A0 a = none ∧ A0 g = none ∧ A0 e = none) (fun σ A => J σ A ∧ A0 a = none ∧ A0 g = none ∧ A0 e = none) := pss_imp h fun E σ A ⟨⟨i, k⟩, q⟩ => ⟨i, fun σ' A' j => q σ' A' ⟨j, k⟩⟩
section
variable {P : Program} {w : World} {K : PySem.W.Frag} {mg : Str → Option Value} {base : Heap} {C CM : Addr} {f : Addr} {cdv : Value} {A : Around} {outer : List Env} {s : Shared} {H : Hp} {E : XK}
variable {M : Mt} {F F' : Fm} {ms : SD} {pre post n : List Int} {x : Int} {out : List D} {s4 s5 s6 s7 : SD}
abbrev flat (pre : List Int) (x : Int) (n post : List Int) : List Int := pre ++ (x :: (n.length : Int) :: (n ++ [0])) ++ post
theorem flat0 : (flat pre x n post)[pre.length]? = some x := by
  unfold flat
  rw [List.append_assoc, List.getElem?_append_right (Nat.le_refl _)]
  simp
theorem flat1 : (flat pre x n post)[pre.length + 1]? = some (n.length : Int) := by
  unfold flat
  rw [List.append_assoc, List.getElem?_append_right (by omega)]
  simp
theorem flat_len' : (flat pre x n post).length = pre.length + 3 + n.length + post.length := by
  unfold flat
  simp
  omega
theorem flat2 : ((flat pre x n post).drop (pre.length + 2)).take n.length = n := by
  have e : flat pre x n post = (pre ++ [x, (n.length : Int)]) ++ (n ++ ([0] ++ post)) := by unfold flat; simp
  rw [e, List.drop_left' (by simp), List.take_left']
  rfl
/-- word, end = calls[at], at + 2 + calls[at + 1]; n = calls[at + 2:end] -/
theorem st0 (hd : ms = ms) : DS C (XA P w K mg base f cdv A outer s H E) M (wSt 0) F [.dat (.ro ((flat pre x n post).map D.int)), .own out, .dat (.int (pre.length : Nat)), ms, s4, s5, s6, s7]
    (.nx F [.dat (.ro ((flat pre x n post).map D.int)), .own out, .dat (.int (pre.length : Nat)), ms, .dat (.int x), .dat (.int ((pre.length + 2 + n.length : Nat) : Int)), s6, s7]) := by
  have a1 : atI ((flat pre x n post).map D.int) ((pre.length : Nat) : Int) = some (.int x) := int_at flat0
  have a2 : atI ((flat pre x n post).map D.int) (((pre.length : Nat) : Int) + 1) = some (.int (n.length : Int)) := int_at (j := pre.length + 1) flat1
  refine ds_to (ds_par 4 5 (de_ixR (dv 0) (dv 2) a1) (de_add (de_add (dv 2) de_int) (de_ixR (dv 0) (de_add (dv 2) de_int) a2)) scA.nd) ?_
  have e : ((pre.length : Nat) : Int) + 2 + (n.length : Int) = ((pre.length + 2 + n.length : Nat) : Int) := by omega
  rw [e]
  rfl
theorem st1 (hd : ms = ms) : DS C (XA P w K mg base f cdv A outer s H E) M (wSt 1) F [.dat (.ro ((flat pre x n post).map D.int)), .own out, .dat (.int (pre.length : Nat)), ms, .dat (.int x), .dat (.int ((pre.length + 2 + n.length : Nat) : Int)), s6, s7]
    (.nx F [.dat (.ro ((flat pre x n post).map D.int)), .own out, .dat (.int (pre.length : Nat)), ms, .dat (.int x), .dat (.int ((pre.length + 2 + n.length : Nat) : Int)), .dat (intD n), s7]) := by
  have hl := flat_len' (pre := pre) (x := x) (n := n) (post := post)
  have c1 : cutD ((flat pre x n post).map D.int) (some (((pre.length : Nat) : Int) + 2)) (some ((pre.length + 2 + n.length : Nat) : Int)) = n.map D.int := by
    have := cut_ft ((flat pre x n post).map D.int) (j := pre.length + 2) (k := pre.length + 2 + n.length) (by omega) (by rw [List.length_map]; omega)
    have e : ((pre.length + 2 : Nat) : Int) = ((pre.length : Nat) : Int) + 2 := by omega
    rw [e] at this
    rw [this, ← List.map_drop, ← List.map_take, show pre.length + 2 + n.length - (pre.length + 2) = n.length by omega, flat2]
  exact ds_to (ds_set 6 (de_of (dn_is (dn_slR (dv 0) (do_some (de_add (dv 2) de_int)) (do_some (dv 5))) c1)) scA.nd) rfl
/-- found.append(len(told)); found.extend(told); at = end + 1 -/
theorem st3 (hF : FMut M F) {t : List Int} (nL : MgN mg "len") (hz : out.length + 1 + t.length ≤ 10000000) : DB C (XA P w K mg base f cdv A outer s H E) M [wSt 3, wSt 4, wSt 5] F [.dat (.ro ((flat pre x n post).map D.int)), .own out, .dat (.int (pre.length : Nat)), ms, .dat (.int x), .dat (.int ((pre.length + 2 + n.length : Nat) : Int)), .dat (intD n), .dat (intD t)]
    (.nx F [.dat (.ro ((flat pre x n post).map D.int)), .own (out ++ ((t.length : Int) :: t).map D.int), .dat (.int ((pre.length + 3 + n.length : Nat) : Int)), ms, .un, .un, .un, .un]) := by
  have z1 : out.length ≤ 10000000 := by omega
  have sz : ∀ {k : Nat}, k ≤ 10000000 → k < sizeLine := fun h => Nat.lt_of_le_of_lt h (by decide)
  have z2 : (out ++ [D.int (((t.map D.int).length : Nat) : Int)]).length + (t.map D.int).length ≤ sizeLine := by
    rw [List.length_append, List.length_map, List.length_singleton]
    exact Nat.le_of_lt (sz hz)
  refine db_forget (db_cons (ds_appendF hF 1 (de_len nL (dv 7)) (sz z1)) (db_cons (ds_extendF hF 1 (dv 7) z2) (db_one (ds_set 2 (de_add (dv 5) de_int) scA.nd)))) ?_
  have e1 : (out ++ [D.int (((t.map D.int).length : Nat) : Int)]) ++ t.map D.int = out ++ ((t.length : Int) :: t).map D.int := by
    rw [List.length_map, List.append_assoc]
    rfl
  have e2 : (((pre.length + 2 + n.length : Nat) : Int) + 1) = ((pre.length + 3 + n.length : Nat) : Int) := by omega
  rw [← e1, ← e2]
  exact .same (.same (.same (.same (.un (.un (.un (.un .nil)))))))
/-- no monitor -/
theorem st2A (g : PGl P w K mg base C CM) (hx : x ≠ 0) : DS C (XA P w K mg base f cdv A outer s H E) M (wSt 2) F [.dat (.ro ((flat pre x n post).map D.int)), .own out, .dat (.int (pre.length : Nat)), .dat .non, .dat (.int x), .dat (.int ((pre.length + 2 + n.length : Nat) : Int)), .dat (intD n), s7] (.nx F [.dat (.ro ((flat pre x n post).map D.int)), .own out, .dat (.int (pre.length : Nat)), .dat .non, .dat (.int x), .dat (.int ((pre.length + 2 + n.length : Nat) : Int)), .dat (intD n), .dat (intD [-11])]) := by
  refine ds_if (k := false) (dt_is (dw_t (dw_and (l := false) (dt_eq (dv 4) (dg g.nCreate)) (fun h => absurd (of_decide_eq_true h) hx))) (Bool.and_false _)) (fun h => by cases h) (fun _ => db_one (ds_if (k := false) (dt_is (dt_eq (dv 4) (dg g.nCreate)) (decide_eq_false hx)) (fun h => by cases h) (fun _ => db_one ?_)))
  exact ds_to (ds_set 7 (de_ifeT (dt_isN (dv 3)) (de_of (dn_lst (da_cons (dg g.nNo) da_nil)))) scA.nd) rfl
/-- no process -/
theorem st2B (g : PGl P w K mg base C CM) (hr1 : Room 1 (XA P w K mg base f cdv A outer s H E).A) {a b c d : Nat} (hp : isP a b c d = false) {n : List Int} (hn : n = [(a : Int), (b : Int), (c : Int), (d : Int)]) : DS C (XA P w K mg base f cdv A outer s H E) M (wSt 2) F [.dat (.ro ((flat pre 0 n post).map D.int)), .own out, .dat (.int (pre.length : Nat)), ms, .dat (.int 0), .dat (.int ((pre.length + 2 + n.length : Nat) : Int)), .dat (intD n), s7] (.nx F [.dat (.ro ((flat pre 0 n post).map D.int)), .own out, .dat (.int (pre.length : Nat)), ms, .dat (.int 0), .dat (.int ((pre.length + 2 + n.length : Nat) : Int)), .dat (intD n), .dat (intD [-22])]) := by
  subst hn
  refine ds_if (k := false) (dt_is (dw_t (dw_and (l := false) (dt_eq (dv 4) (dg g.nCreate)) (fun _ => dw_and1 (dt_is (dt_val (de_call g.isp hr1 (da_cons (de_ixL (dv 6) de_int (int_at (j := 0) rfl)) (da_cons (de_ixL (dv 6) de_int (int_at (j := 1) rfl)) (da_cons (de_ixL (dv 6) de_int (int_at (j := 2) rfl)) (da_cons (de_ixL (dv 6) de_int (int_at (j := 3) rfl)) da_nil)))) ⟨_, _, _, _, rfl, rfl⟩)) hp)))) (Bool.and_false _)) (fun h => by cases h) (fun _ => db_one (ds_if (k := true) (dt_is (dt_eq (dv 4) (dg g.nCreate)) rfl) (fun _ => db_one ?_) (fun h => by cases h)))
  exact ds_to (ds_set 7 (de_of (dn_lst (da_cons (dg g.nOut) da_nil))) scA.nd) rfl
theorem isNon_ref (a : Addr) : isNon (.raw (.ref a)) = some false := by
  show some (decide (V.ref a = V.non)) = some false
  rw [decide_eq_false (fun z => by cases z)]
/-- a call on a monitor -/
theorem st2D (g : PGl P w K mg base C CM) (hr : Room 24 (XA P w K mg base f cdv A outer s H E).A) {a gg e : Addr} {m m' : Kp390.Monitor} {c : Kp390.Call} (W : MWf m) (hc : AskAny x n c) (hm : some m' = (Kp390.step (some m) c).1) : DS C (XA P w K mg base f cdv A outer s H E) (Mt3 a gg e) (wSt 2) (MonF K C CM a gg e m) [.dat (.ro ((flat pre x n post).map D.int)), .own out, .dat (.int (pre.length : Nat)), .dat (.raw (.ref a)), .dat (.int x), .dat (.int ((pre.length + 2 + n.length : Nat) : Int)), .dat (intD n), s7] (.nx (MonF K C CM a gg e m') [.dat (.ro ((flat pre x n post).map D.int)), .own out, .dat (.int (pre.length : Nat)), .dat (.raw (.ref a)), .dat (.int x), .dat (.int ((pre.length + 2 + n.length : Nat) : Int)), .dat (intD n), .dat (intD ((Kp390.step (some m) c).2.num :: (Kp390.step (some m) c).2.nums))]) := by
  have hx := ask_ne hc
  refine ds_if (k := false) (dt_is (dw_t (dw_and (l := false) (dt_eq (dv 4) (dg g.nCreate)) (fun h => absurd (of_decide_eq_true h) hx))) (Bool.and_false _)) (fun h => by cases h) (fun _ => db_one (ds_if (k := false) (dt_is (dt_eq (dv 4) (dg g.nCreate)) (decide_eq_false hx)) (fun h => by cases h) (fun _ => db_one ?_)))
  exact ds_to (ds_setM 7 (dm_ife (k := false) (dt_isN (dv 3) (isNon_ref a)) (fun h => by cases h) (fun _ => dm_call g.ans hr (dv 3) (da_cons (dv 4) (da_cons (dv 6) da_nil)) ⟨x, n, c, rfl, W, hc, rfl, hm⟩)) scA.nd) rfl
/-- a new monitor -/
theorem st2C (g : PGl P w K mg base C CM) (hr : Room 24 (XA P w K mg base f cdv A outer s H E).A) {H0 A0 : Hp} {a b c d : Nat} (hp : isP a b c d = true) {n : List Int} (hn : n = [(a : Int), (b : Int), (c : Int), (d : Int)]) :
    HS (XA P w K mg base f cdv A outer s H E) (wSt 2) (SI K C H0 A0 M0 F0 [.dat (.ro ((flat pre 0 n post).map D.int)), .own out, .dat (.int (pre.length : Nat)), .un, .dat (.int 0), .dat (.int ((pre.length + 2 + n.length : Nat) : Int)), .dat (intD n), s7]) (SM K C CM H0 A0 ⟨Kp389.newProcess a b c d, [], []⟩ fun p => [.dat (.ro ((flat pre 0 n post).map D.int)), .own out, .dat (.int (pre.length : Nat)), .dat (.raw (.ref p)), .dat (.int 0), .dat (.int ((pre.length + 2 + n.length : Nat) : Int)), .dat (intD n), .dat (intD [((Kp389.rewardCount (Kp389.newProcess a b c d) : Nat) : Int)])]) := by
  subst hn
  have hr1 : Room 1 _ := hr.mono (by decide)
  have hr2 : Room 2 _ := hr.mono (by decide)
  have hr3 : Room 3 _ := hr.mono (by decide)
  have h' := (isP_iff a b c d).mp hp
  refine hs_ifT (dt_is (dw_t (dw_and (l := true) (dt_eq (dv 4) (dg g.nCreate)) (fun _ => dw_and1 (dt_is (dt_val (de_call g.isp hr1 (da_cons (de_ixL (dv 6) de_int (int_at (j := 0) rfl)) (da_cons (de_ixL (dv 6) de_int (int_at (j := 1) rfl)) (da_cons (de_ixL (dv 6) de_int (int_at (j := 2) rfl)) (da_cons (de_ixL (dv 6) de_int (int_at (j := 3) rfl)) da_nil)))) ⟨_, _, _, _, rfl, rfl⟩)) hp)))) rfl) ?_
  refine hb_cons (J := SM K C CM H0 A0 ⟨Kp389.newProcess a b c d, [], []⟩ fun p => [.dat (.ro ((flat pre 0 [(a : Int), (b : Int), (c : Int), (d : Int)] post).map D.int)), .own out, .dat (.int (pre.length : Nat)), .dat (.raw (.ref p)), .dat (.int 0), .dat (.int ((pre.length + 2 + [(a : Int), (b : Int), (c : Int), (d : Int)].length : Nat) : Int)), .dat (intD [(a : Int), (b : Int), (c : Int), (d : Int)]), s7]) ?_ ?_
  · exact hs_make (pr := Kp389.newProcess a b c d) (δ := [.dat (.ro ((flat pre 0 [(a : Int), (b : Int), (c : Int), (d : Int)] post).map D.int)), .own out, .dat (.int (pre.length : Nat)), .un, .dat (.int 0), .dat (.int ((pre.length + 2 + [(a : Int), (b : Int), (c : Int), (d : Int)].length : Nat) : Int)), .dat (intD [(a : Int), (b : Int), (c : Int), (d : Int)]), s7]) 3 g.make hr2 (de_call g.newp hr3 (da_cons (de_ixL (dv 6) de_int (int_at (j := 0) rfl)) (da_cons (de_ixL (dv 6) de_int (int_at (j := 1) rfl)) (da_cons (de_ixL (dv 6) de_int (int_at (j := 2) rfl)) (da_cons (de_ixL (dv 6) de_int (int_at (j := 3) rfl)) da_nil)))) ⟨a, b, c, d, rfl, by omega, by omega, rfl⟩) scA.nd
  unfold SM
  refine hb_ex fun q => ?_
  refine hb_post (hb_pre' (A0 := A0) (hb_of (db_one (ds_to (ds_set 7 (de_of (dn_lst (da_cons (de_meth0 g.count hr1 g.PT.cl nfCount (de_mproc g.T (dv 3)) ⟨_, rfl, new_wf hp, rfl⟩) da_nil))) scA.nd) rfl)))) (fun σ A h => ⟨q, h⟩)
end
end Sw
namespace Sw
open PySem PySem.Spec PyProof.Rows L2
/-! ### the states between the calls -/
def stAt : Kp390.State → List NCall → Kp390.State
  | s, [] => s
  | s, c :: l => stAt (Kp390Neutral.step s c).1 l
theorem stAt_snoc : ∀ (s : Kp390.State) (l : List NCall) (c : NCall), stAt s (l ++ [c]) = (Kp390Neutral.step (stAt s l) c).1
  | _, [], _ => rfl
  | s, d :: l, c => stAt_snoc _ l c
theorem played_snoc : ∀ (s : Kp390.State) (l : List NCall) (c : NCall), PyFlat.played Kp390Neutral.step s (l ++ [c]) = PyFlat.played Kp390Neutral.step s l ++ [(Kp390Neutral.step (stAt s l) c).2]
  | _, [], _ => rfl
  | s, d :: l, c => by
    simp only [List.cons_append, PyFlat.played, stAt]
    rw [played_snoc _ l c]
theorem told_snoc (l : List (List Int)) (a : List Int) : PyFlat.told (l ++ [a]) = PyFlat.told l ++ ((a.length : Int) :: a) := by
  unfold PyFlat.told
  rw [List.flatMap_append]
  simp
def WfS : Kp390.State → Prop
  | none => True
  | some m => MWf m
section
variable {P : Program} {w : World} {K : PySem.W.Frag} {mg : Str → Option Value} {base : Heap} {C CM : Addr} {f : Addr} {cdv : Value} {A : Around} {outer : List Env} {s : Shared} {H : Hp} {E : XK}
variable {M : Mt} {F F' : Fm} {H0 A0 : Hp}
/-- the state ahead of a turn -/
def Iv (K : PySem.W.Frag) (C CM : Addr) (H0 A0 : Hp) (ns : List Int) : Kp390.State → Nat → List Int → L2.St → Hp → Prop
  | none, at_, out => SI K C H0 A0 M0 F0 [.dat (.ro (ns.map D.int)), .own (out.map D.int), .dat (.int (at_ : Nat)), .dat .non, .un, .un, .un, .un]
  | some m, at_, out => SM K C CM H0 A0 m fun a => [.dat (.ro (ns.map D.int)), .own (out.map D.int), .dat (.int (at_ : Nat)), .dat (.raw (.ref a)), .un, .un, .un, .un]
theorem wBody_eq : wBody = [wSt 0, wSt 1, wSt 2, wSt 3, wSt 4, wSt 5] := rfl
theorem turn1 {ms : SD} {pre post n : List Int} {x : Int} {out t : List Int} (hF : FMut M F') (nL : MgN mg "len") (hz : out.length + 1 + t.length ≤ 10000000)
    (h2 : DS C (XA P w K mg base f cdv A outer s H E) M (wSt 2) F [.dat (.ro ((flat pre x n post).map D.int)), .own (out.map D.int), .dat (.int (pre.length : Nat)), ms, .dat (.int x), .dat (.int ((pre.length + 2 + n.length : Nat) : Int)), .dat (intD n), .un]
      (.nx F' [.dat (.ro ((flat pre x n post).map D.int)), .own (out.map D.int), .dat (.int (pre.length : Nat)), ms, .dat (.int x), .dat (.int ((pre.length + 2 + n.length : Nat) : Int)), .dat (intD n), .dat (intD t)])) :
    HB (XA P w K mg base f cdv A outer s H E) wBody (SI K C H0 A0 M F [.dat (.ro ((flat pre x n post).map D.int)), .own (out.map D.int), .dat (.int (pre.length : Nat)), ms, .un, .un, .un, .un])
      (SI K C H0 A0 M F' [.dat (.ro ((flat pre x n post).map D.int)), .own ((out ++ ((t.length : Int) :: t)).map D.int), .dat (.int ((pre.length + 3 + n.length : Nat) : Int)), ms, .un, .un, .un, .un]) := by
  have e : (out ++ ((t.length : Int) :: t)).map D.int = out.map D.int ++ ((t.length : Int) :: t).map D.int := List.map_append
  rw [wBody_eq, e]
  exact hb_cons (hs_of (st0 rfl)) (hb_cons (hs_of (st1 rfl)) (hb_cons (hs_of h2) (hb_of (st3 hF nL (by rw [List.length_map]; exact hz)))))
theorem turn (g : PGl P w K mg base C CM) (hr : Room 24 (XA P w K mg base f cdv A outer s H E).A) {st : Kp390.State} (W : WfS st) {pre post n : List Int} {x : Int} (hc : Kp390Neutral.asked1 [x :: n] = true) {out : List Int} (hz : out.length + 1 + (Kp390Neutral.step st [x :: n]).2.length ≤ 10000000) :
    WfS (Kp390Neutral.step st [x :: n]).1 ∧ HB (XA P w K mg base f cdv A outer s H E) wBody (Iv K C CM H0 A0 (flat pre x n post) st pre.length out)
      (Iv K C CM H0 A0 (flat pre x n post) (Kp390Neutral.step st [x :: n]).1 (pre.length + 3 + n.length) (out ++ (((Kp390Neutral.step st [x :: n]).2.length : Int) :: (Kp390Neutral.step st [x :: n]).2))) := by
  have hr1 : Room 1 _ := hr.mono (by decide)
  have stp : ∀ c, Kp390Neutral.callOf [x :: n] = some c → Kp390Neutral.step st [x :: n] = ((Kp390.step st c).1, (Kp390.step st c).2.num :: (Kp390.step st c).2.nums) := fun c h => by
    unfold Kp390Neutral.step
    rw [h]
  rcases asked_kinds hc with ⟨rfl, a, b, c, d, hn, hcall⟩ | ⟨c, ha, hcall⟩
  · rw [stp _ hcall] at hz ⊢
    cases hp : isP a b c d with
    | false =>
      rw [create_no hp] at hz ⊢
      refine ⟨W, ?_⟩
      cases st with
      | none => exact turn1 (t := [-22]) fmut0 g.nLen hz (st2B g hr1 hp hn)
      | some m =>
        refine hb_ex fun q => ?_
        exact hb_post (hb_pre' (turn1 (t := [-22]) fmutM g.nLen hz (st2B g hr1 hp hn))) fun σ A h => ⟨q, h⟩
    | true =>
      rw [create_ok hp] at hz ⊢
      refine ⟨mon_new hp, ?_⟩
      have main : HB (XA P w K mg base f cdv A outer s H E) wBody (SI K C H0 A0 M0 F0 [.dat (.ro ((flat pre 0 n post).map D.int)), .own (out.map D.int), .dat (.int (pre.length : Nat)), .un, .un, .un, .un, .un])
          (SM K C CM H0 A0 ⟨Kp389.newProcess a b c d, [], []⟩ fun q => [.dat (.ro ((flat pre 0 n post).map D.int)), .own ((out ++ (1 :: [((Kp389.rewardCount (Kp389.newProcess a b c d) : Nat) : Int)])).map D.int), .dat (.int ((pre.length + 3 + n.length : Nat) : Int)), .dat (.raw (.ref q)), .un, .un, .un, .un]) := by
        have e : (out ++ (1 :: [((Kp389.rewardCount (Kp389.newProcess a b c d) : Nat) : Int)])).map D.int = out.map D.int ++ (1 :: [((Kp389.rewardCount (Kp389.newProcess a b c d) : Nat) : Int)]).map D.int := List.map_append
        rw [wBody_eq, e]
        refine hb_cons (hs_of (st0 rfl)) (hb_cons (hs_of (st1 rfl)) (hb_cons (st2C g hr hp hn) ?_))
        refine hb_ex fun q => ?_
        exact hb_post (hb_pre' (hb_of (st3 (t := [((Kp389.rewardCount (Kp389.newProcess a b c d) : Nat) : Int)]) fmutM g.nLen (by rw [List.length_map]; exact hz)))) fun σ A h => ⟨q, h⟩
      cases st with
      | none => exact hb_pre main fun σ A ⟨H', s'⟩ => ⟨H', s'.sls (s'.sl.forget (.same (.same (.same (.un (.same (.same (.same (.same .nil)))))))))⟩
      | some m => exact hb_pre main fun σ A ⟨q, ⟨H', s'⟩, k1, k2, k3⟩ => ⟨H', s'.lose k1 k2 k3 (.same (.same (.same (.un (.same (.same (.same (.same .nil))))))))⟩
  · rw [stp _ hcall] at hz ⊢
    cases st with
    | none =>
      rw [step_none ha] at hz ⊢
      exact ⟨W, turn1 (t := [-11]) fmut0 g.nLen hz (st2A g (ask_ne ha))⟩
    | some m =>
      obtain ⟨m', hm⟩ := step_some (m := m) ha
      have W' := step_wf W ha hm
      rw [← hm]
      refine ⟨W', ?_⟩
      refine hb_ex fun q => ?_
      exact hb_post (hb_pre' (turn1 (t := (Kp390.step (some m) c).2.num :: (Kp390.step (some m) c).2.nums) fmutM g.nLen hz (st2D g hr W ha hm))) fun σ A h => ⟨q, h⟩
end
end Sw
namespace Sw
open PySem PySem.Spec PyProof.Rows L2
section
variable {C : Addr} {X : Cx} {M : Mt} {F F1 F2 : Fm} {δ δ1 δ2 : List SD} {o : Out} {a b c e tg iter : Expr} {pos : Pos}
/-- found, y, z = [], e, g -/
theorem ds_par3A (i j l : Nat) {x y z : Str} {es1 : List D} {d2 d3 : D} {px py pz pt : Pos} {kt k2 pt2} (ha : DN C X a F δ es1) (hb : DE C X b F δ d2) (hc' : DE C X c F δ d3) (hN : X.N.Nodup) (hM : ∀ b, ¬ M b := by intro _; exact id) (hi : X.N[i]? = some x := by rfl) (hj : X.N[j]? = some y := by rfl) (hl : X.N[l]? = some z := by rfl)
    (hij : i ≠ j := by decide) (hil : i ≠ l := by decide) (hjl : j ≠ l := by decide) (hc : X.calm = true := by rfl)
    (hx : X.env.scope.names.lookup x = some .local := by rfl) (hy : X.env.scope.names.lookup y = some .local := by rfl) (hz : X.env.scope.names.lookup z = some .local := by rfl)
    (hse : starEach (a :: [b, c]) X.env = (false, eval a X.env) :: starEach [b, c] X.env := by rfl) (hse2 : starEach (b :: [c]) X.env = (false, eval b X.env) :: starEach [c] X.env := by rfl) (hse3 : starEach (c :: []) X.env = (false, eval c X.env) :: starEach [] X.env := by rfl)
    (hw : swappedStores [.Tuple [.Name x px, .Name y py, .Name z pz] kt pt] (.Tuple [a, b, c] k2 pt2) X.env = pure (some [x, y, z]) := by rfl)
    (hs : swapsWithSole [.Tuple [.Name x px, .Name y py, .Name z pz] kt pt] (.Tuple [a, b, c] k2 pt2) pos.line X.env = pure false := by rfl) :
    DS C X M (.Assign [.Tuple [.Name x px, .Name y py, .Name z pz] kt pt] (.Tuple [a, b, c] k2 pt2) pos) F δ (.nx F (((δ.set i (.own es1)).set j (.dat d2)).set l (.dat d3))) :=
  ps_imp (ps_par3 hc hN hi hj hl hij hil hjl hx hy hz (pa_cons ha (pa_cons hb (pa_cons hc' pa_nil hse3) hse2) hse) hw hs) fun E σ A ⟨H0, A0, H, s, q⟩ => by
    refine (?_ : tCons (teN X.K C F δ es1) (tCons (teD X.K C F δ d2) (tCons (teD X.K C F δ d3) tNil)) σ A _)
    refine (of_DN (fun b z => absurd z (hM b)) s fun p H1 A1 s1 s2 => ?_ : teN X.K C F δ es1 σ A _)
    refine (⟨M, A0, H1, s1.ha, s1.f, s1.sl, fun u H2 A2 n2 r2 => ?_⟩ : teD X.K C F δ d2 σ A1 _)
    have s1' := s1.nx n2
    refine (⟨M, A0, H2, s1'.ha, s1'.f, s1'.sl, fun v H3 A3 n3 r3 => ?_⟩ : teD X.K C F δ d3 σ A2 _)
    have s4 := ((s2 i).nx n2).nx n3
    have s5 := s4.sls (s4.sl.setD (i := j) (rp_mono n3.hh _ _ r2))
    have s6 := s5.sls (s5.sl.setD (i := l) r3)
    exact ⟨_, _, _, rfl, q _ _ _ s6⟩
end
/-! ### all calls -/
def posI (cs : List NCall) (i : Nat) : Nat := ((cs.take i).flatMap enc).length
def outI (cs : List NCall) (i : Nat) : List Int := PyFlat.told (PyFlat.played Kp390Neutral.step Kp390Neutral.start (cs.take i))
def stI (cs : List NCall) (i : Nat) : Kp390.State := stAt Kp390Neutral.start (cs.take i)
theorem enc_pos {c : NCall} (h : Kp390Neutral.asked1 c = true) : 0 < (enc c).length := by
  obtain ⟨x, n, rfl⟩ := asked_one h
  simp [enc]
theorem take_snoc {α : Type} {l : List α} {i : Nat} {x : α} (h : l[i]? = some x) : l.take (i + 1) = l.take i ++ [x] := by rw [List.take_add_one, h]; rfl
theorem outI_succ {cs : List NCall} {i : Nat} {c : NCall} (h : cs[i]? = some c) : outI cs (i + 1) = outI cs i ++ (((Kp390Neutral.step (stI cs i) c).2.length : Int) :: (Kp390Neutral.step (stI cs i) c).2) := by
  unfold outI stI
  rw [take_snoc h, played_snoc, told_snoc]
theorem stI_succ {cs : List NCall} {i : Nat} {c : NCall} (h : cs[i]? = some c) : stI cs (i + 1) = (Kp390Neutral.step (stI cs i) c).1 := by
  unfold stI
  rw [take_snoc h, stAt_snoc]
theorem posI_succ {cs : List NCall} {i : Nat} {x : Int} {n : List Int} (h : cs[i]? = some [x :: n]) : posI cs (i + 1) = posI cs i + 3 + n.length := by
  unfold posI
  rw [take_snoc h, List.flatMap_append, List.length_append]
  simp [enc]
  omega
theorem outI_mono {cs : List NCall} : ∀ {i j : Nat}, i ≤ j → (outI cs i).length ≤ (outI cs j).length := by
  intro i j h
  induction j with
  | zero => have : i = 0 := by omega
            subst this; exact Nat.le_refl _
  | succ j ih =>
    by_cases e : i = j + 1
    · subst e; exact Nat.le_refl _
    · refine Nat.le_trans (ih (by omega)) ?_
      cases hj : cs[j]? with
      | none =>
        have : cs.length ≤ j := List.getElem?_eq_none_iff.mp hj
        unfold outI
        rw [List.take_of_length_le this, List.take_of_length_le (by omega)]
        exact Nat.le_refl _
      | some c => rw [outI_succ hj, List.length_append]; omega
theorem flat_at {cs : List NCall} {i : Nat} {x : Int} {n : List Int} (h : cs[i]? = some [x :: n]) : cs.flatMap enc = flat ((cs.take i).flatMap enc) x n ((cs.drop (i + 1)).flatMap enc) := by
  obtain ⟨hi, e⟩ := List.getElem?_eq_some_iff.mp h
  conv => lhs; rw [← List.take_append_drop i cs, List.drop_eq_getElem_cons hi, e]
  rw [List.flatMap_append, List.flatMap_cons]
  unfold flat
  simp [enc]
def R_answers : List D → D → Prop := fun ds d => ∃ ns : List Int, ds = [.ro (ns.map D.int)] ∧ PyKp390.answers_asked ns = true ∧ d = intD (PyKp390.answers ns)
section
variable {P : Program} {w : World} {K : PySem.W.Frag} {mg : Str → Option Value} {base : Heap} {C CM : Addr} {f : Addr} {fd : FuncData} {cdv : Value} {A : Around} {outer : List Env} {s : Shared} {H : Hp} {E : XK}
/-- the state ahead of turn i -/
def Wv (K : PySem.W.Frag) (C CM : Addr) (H0 A0 : Hp) (cs : List NCall) (i : Nat) (σ : L2.St) (A : Hp) : Prop := WfS (stI cs i) ∧ Iv K C CM H0 A0 (cs.flatMap enc) (stI cs i) (posI cs i) (outI cs i) σ A
def aWhile : Stmt := (defBody sA).getD 1 (.Pass ⟨0, 0, 0, 0⟩)
theorem Iv_nx {ns : List Int} {H0 A0 A' : Hp} {st : Kp390.State} {at_ : Nat} {out : List Int} {σ : L2.St} {A : Hp} (h : Iv K C CM H0 A0 ns st at_ out σ A) :
    ∃ (M : Mt) (F : Fm) (δ : List SD) (H : Hp), StA K C M F H0 A0 H A σ δ ∧ δ[0]? = some (.dat (.ro (ns.map D.int))) ∧ δ[2]? = some (.dat (.int (at_ : Nat))) ∧ ∀ H' A', Nx H A H' A' → Iv K C CM H0 A0 ns st at_ out σ A' := by
  cases st with
  | none =>
    obtain ⟨H, s⟩ := h
    exact ⟨_, _, _, H, s, rfl, rfl, fun H' A' n => ⟨H', s.nx n⟩⟩
  | some m =>
    obtain ⟨q, ⟨H, s⟩, k⟩ := h
    exact ⟨_, _, _, H, s, rfl, rfl, fun H' A' n => ⟨q, ⟨H', s.nx n⟩, k⟩⟩
theorem ds_loop (g : PGl P w K mg base C CM) (hr : Room 24 (XA P w K mg base f cdv A outer s H E).A) {cs : List NCall} (hc : ∀ c ∈ cs, Kp390Neutral.asked1 c = true) (hz : (outI cs cs.length).length ≤ 10000000) :
    DS C (XA P w K mg base f cdv A outer s H E) M0 aWhile F0 [.dat (.ro ((cs.flatMap enc).map D.int)), .own [], .dat (.int 0), .dat .non, .un, .un, .un, .un]
      (.nx F0 [.dat (.ro ((cs.flatMap enc).map D.int)), .own ((outI cs cs.length).map D.int), .un, .un, .un, .un, .un, .un]) := by
  refine ps_imp (ps_while (tc := fun σ A Q => ∃ (F : Fm) (δ : List SD) (i : Nat), i ≤ cs.length ∧ δ[0]? = some (.dat (.ro ((cs.flatMap enc).map D.int))) ∧ δ[2]? = some (.dat (.int (posI cs i : Nat))) ∧ ttD K C F δ (decide (i < cs.length)) σ A Q)
    (tb := fun E σ A => ∃ (H0 A0 : Hp) (i : Nat), i < cs.length ∧ Wv K C CM H0 A0 cs i σ A ∧ ∀ σ' A', Wv K C CM H0 A0 cs (i + 1) σ' A' → E.nx σ' A') PassesOwn.never
    ⟨fun pins s σ H Q I ⟨F, δ, i, hi, h0, h2, q⟩ => ?_⟩ ⟨fun pins s σ H E I ⟨H0, A0, i, hi, wv, q⟩ => ?_⟩) fun E σ A1 ⟨H0, A0, H1, s1, q⟩ => ?_
  · refine (dt_is (dt_lt (dv 2 h2) (de_len g.nLen (dv 0 h0))) ?_).run pins s σ H Q I q
    rw [List.length_map]
    by_cases h : i < cs.length
    · rw [decide_eq_true h]
      refine decide_eq_true ?_
      have hci : cs[i]? = some cs[i] := List.getElem?_eq_getElem h
      have ep := enc_pos (hc _ (List.getElem_mem h))
      have : (cs.flatMap enc).length = posI cs i + ((cs.drop i).flatMap enc).length := by
        unfold posI
        conv => lhs; rw [← List.take_append_drop i cs]
        rw [List.flatMap_append, List.length_append]
      rw [List.drop_eq_getElem_cons h, List.flatMap_cons, List.length_append] at this
      omega
    · have e : i = cs.length := by omega
      subst e
      rw [decide_eq_false h]
      refine decide_eq_false ?_
      unfold posI
      rw [List.take_length]
      omega
  · obtain ⟨x, n, e⟩ := asked_one (hc _ (List.getElem_mem hi))
    have hci : cs[i]? = some [x :: n] := by rw [List.getElem?_eq_getElem hi, e]
    have ha : Kp390Neutral.asked1 [x :: n] = true := by rw [← e]; exact hc _ (List.getElem_mem hi)
    have hf := flat_at hci
    have hle : (outI cs (i + 1)).length ≤ 10000000 := Nat.le_trans (outI_mono (by omega)) hz
    rw [outI_succ hci, List.length_append, List.length_cons] at hle
    obtain ⟨wf, iv⟩ := wv
    obtain ⟨wf', hb⟩ := turn (H0 := H0) (A0 := A0) (post := (cs.drop (i + 1)).flatMap enc) (pre := (cs.take i).flatMap enc) (out := outI cs i) g hr wf ha (by omega)
    refine hb.run pins s σ H E I ⟨?_, fun σ' A' h' => q σ' A' ⟨?_, ?_⟩⟩
    · rw [hf] at iv
      exact iv
    · rw [stI_succ hci]; exact wf'
    · rw [stI_succ hci, posI_succ hci, outI_succ hci, hf]
      exact h'
  · refine ⟨fun m σ2 A2 => m ≤ cs.length ∧ Wv K C CM H0 A0 cs (cs.length - m) σ2 A2, ⟨cs.length, Nat.le_refl _, ?_⟩, ?_⟩
    · rw [Nat.sub_self]
      exact ⟨True.intro, H1, s1⟩
    rintro m σ2 A2 ⟨hm, wf, iv⟩
    obtain ⟨M, F, δ, H2, s2, d0, d2, nx⟩ := Iv_nx (A' := A2) iv
    refine ⟨F, δ, cs.length - m, by omega, d0, d2, M, A0, H2, s2.ha, s2.f, s2.sl, fun H3 A3 n3 => ?_⟩
    have iv3 := nx H3 A3 n3
    by_cases h0 : m = 0
    · subst h0
      have : decide (cs.length - 0 < cs.length) = false := by simp
      rw [this]
      rw [Nat.sub_zero] at iv3
      have fin : ∃ H', StA K C M0 F0 H0 A0 H' A3 σ2 [.dat (.ro ((cs.flatMap enc).map D.int)), .own ((outI cs cs.length).map D.int), .un, .un, .un, .un, .un, .un] := by
        cases hst : stI cs cs.length with
        | none =>
          rw [hst] at iv3
          obtain ⟨H', s'⟩ := iv3
          exact ⟨H', s'.sls (s'.sl.forget (.same (.same (.un (.un (.same (.same (.same (.same .nil)))))))))⟩
        | some m =>
          rw [hst] at iv3
          obtain ⟨q, ⟨H', s'⟩, k1, k2, k3⟩ := iv3
          exact ⟨H', s'.lose k1 k2 k3 (.same (.same (.un (.un (.same (.same (.same (.same .nil))))))))⟩
      obtain ⟨H', s'⟩ := fin
      exact q _ _ _ s'
    · have : decide (cs.length - m < cs.length) = true := by simp; omega
      rw [this]
      refine ⟨fun σ' A' => Wv K C CM H0 A0 cs (cs.length - m + 1) σ' A', fun σ' A' wv => ⟨m - 1, by omega, by omega, ?_⟩, H0, A0, cs.length - m, by omega, ⟨wf, iv3⟩, fun σ' A' wv => wv⟩
      have e : cs.length - (m - 1) = cs.length - m + 1 := by omega
      rw [e]
      exact wv
theorem ok_answers (G : Fun K "answers" "answers" sA f fd) (g : PGl P w K mg base C CM) : FnOk P w K mg base CX0 25 f fd ["calls"] (spD K C R_answers) := by
  refine pure_def G scA (fun ds d ⟨_, h, _⟩ => by rw [h]; rfl) fun cdv A outer s H E hr ds d h => ?_
  obtain ⟨ns, rfl, ha, rfl⟩ := h
  unfold PyKp390.answers_asked at ha
  unfold PyKp390.answers at ha ⊢
  cases hcs : PyKp390.calls ns with
  | none => rw [hcs] at ha; cases ha
  | some cs =>
    rw [hcs] at ha
    simp only [Bool.and_eq_true] at ha
    obtain ⟨⟨h1, h2⟩, h3⟩ := ha
    unfold Kp390Neutral.asked at h2
    rw [Bool.and_eq_true, Bool.and_eq_true] at h2
    have hall := h2.2.2
    have hns : ns = cs.flatMap enc := calls_enc _ _ _ hcs hall
    have hc : ∀ c ∈ cs, Kp390Neutral.asked1 c = true := fun c hc => List.all_eq_true.mp hall c hc
    have ho : outI cs cs.length = PyFlat.told (PyFlat.played Kp390Neutral.step Kp390Neutral.start cs) := by unfold outI; rw [List.take_length]
    have hz : (outI cs cs.length).length ≤ 10000000 := by
      rw [ho]
      exact of_decide_eq_true h3
    subst hns
    simp only []
    rw [← ho]
    refine db_cons (ds_par3A 1 2 3 (dn_lst da_nil) de_int de_non scA.nd) (db_cons (ds_loop g hr hc hz) (db_one (ds_retO 1)))
end
end Sw
namespace Sw
open PySem PySem.Spec PyProof.Rows L2
/-! ### what the top has left -/
structure DefK (K : PySem.W.Frag) (x qual : Str) (st : Stmt) (f : Addr) : Prop where
  ex : ∃ fd, Fun K x qual st f fd
theorem defk {K : PySem.W.Frag} {x qual : Str} {st : Stmt} {f : Addr} {oc : Value} {od an : Option Addr} {osl : Array (Option Value)} {kV doc pm cdv ct : Value} (l : K.lookup f = some ⟨oc, od, .func (PySem.W.fnOf x qual (defArgs st) (defBody st) (defScope st) .none kV doc pm an cdv ct), osl⟩)
    (c : PySem.W.codeIn K cdv qual = true) (k : PySem.W.keepIn K (.ref f) = true) : DefK K x qual st f := ⟨_, fun_mk l c k⟩
theorem det_all {P : Program} {w : World} {K : PySem.W.Frag} {mg : Str → Option Value} {base : Heap} {C : Addr} {f : Addr} {fd : FuncData} (F : ∀ m, m ≤ 4 → FnOk P w K mg base CX0 (m + 2) f fd ["rows"] (spD K C (R_det m))) : FnOk P w K mg base CX0 6 f fd ["rows"] (spD K C R_detA) := by
  refine ⟨fun vs H Q E h => ?_, fun A outer s H args us vs Q E hr he hb hv hs => ?_⟩
  · obtain ⟨H, ds, d, ex, r, ⟨m, hm, hR⟩, q⟩ := h
    exact (F m hm).len vs _ Q E ⟨H, ds, d, ex, r, hR, q⟩
  · obtain ⟨H, ds, d, ex, r, ⟨m, hm, hR⟩, q⟩ := hs
    exact (F m hm).run A outer s _ args us vs Q E (hr.mono (by omega)) he hb hv ⟨H, ds, d, ex, r, hR, q⟩
/-- the promise of the entry -/
def spFin (K : PySem.W.Frag) : Sp := fun vs A Q _ => ∃ (a : Addr) (ns : List Int), vs = [V.ref a] ∧ SqL K A a (iV ns) ∧ PyKp390.answers_asked ns = true ∧ ∀ p H', H' p = some (.lst (iV (PyKp390.answers ns))) → Q (.ref p) H'
theorem fin_imp {K : PySem.W.Frag} {C : Addr} (vs : List V) (A : Hp) (Q : VK) (E : XK) (h : spFin K vs A Q E) : spD K C R_answers vs A Q E := by
  obtain ⟨a, ns, rfl, hs, ha, q⟩ := h
  refine ⟨A, [.ro (ns.map D.int)], intD (PyKp390.answers ns), .refl _, ?_, ⟨ns, rfl, ha, rfl⟩, fun v H' A' n r => ?_⟩
  · simp only [RpAll, Rp]
    exact ⟨⟨a, _, rfl, hs, rpAll_iV _ _⟩, True.intro⟩
  · simp only [intD, Rp] at r
    obtain ⟨p, xs, rfl, h2, h3⟩ := r
    rw [rpAll_ints h3] at h2
    exact q p A' (n.ha _ _ h2)
theorem zero_ok {K : PySem.W.Frag} {C : Addr} {mg : Str → Option Value} {z : Addr} {zd : Option Addr} {zt0 zt1 : Tok} {zn : Nat} {zs : Array (Option Value)} (m : mg "ZERO" = some (.ref z)) (l : K.lookup z = some ⟨.type "tuple", zd, .seq #[.int 0 zt0, .int 1 zt1] zn, zs⟩) : MgZ K C mg := by
  refine ⟨z, m, fun H => ?_⟩
  have e : frD 0 = .tup [.int 0, .int 1] := rfl
  rw [e]
  simp only [Rp]
  refine ⟨z, [.int 0, .int 1], rfl, .inr ⟨_, #[.int 0 zt0, .int 1 zt1], zn, l, rfl, rfl, (by show 2 ≤ sizeLine; decide), .cons ⟨_, rfl⟩ (.cons ⟨_, rfl⟩ .nil)⟩, ?_⟩
  simp only [RpAll, Rp]
  exact ⟨True.intro, True.intro, True.intro⟩
theorem all_mk {P : Program} {w : World} {K : PySem.W.Frag} {h : Heap} {mg : Str → Option Value} {fa : Addr} (X : K.In h) (G : h.Ns mainGlobals mg) (hfa : mg "answers" = some (.ref fa))
    {C CM z f_common f_lowest f_plus f_minus f_times f_rounded_up f_numbers_of f_only_at f_new_process f_shaped f_scaled f_reduced f_are_equivalent f_potentials_of f_first_place f_factor_of f_equation f_right_side f_without f_determinant f_with_column f_policy_values f_action_value f_is_greater f_better_action f_improved f_best_policy f_optimal_values f_optimal_actions f_optimal_policy f_value_fractions f_regrets f_next_state f_steps_from f_return_by f_episode_of f_episode_numbers f_discount_over f_corrected f_is_guarantee f_have_same_actions f_least_bound f_holds f_all_hold f_are_within f_is_process f_change_answer f_table_answer f_guarantee_answer f_episode_answer f_answer f_answers f_p_init f_p_reward_count f_p_place f_p_reward f_p_weights_of f_p_keys f_p_with_table f_p_with_weights f_m_has_state f_m_has_action f_m_equivalent f_m_potentials f_m_equivalence_factor f_m_same_optimal_actions f_m_best_values f_m_policy f_m_all_regrets f_m_get_guarantee f_m_check_guarantee f_m_least_regret_bound f_m_episode_error f_m_preview_episode f_m_get_episode f_m_total_returns f_m_corrected_return f_m_status f_m_changed f_m_set_reward f_m_set_rewards f_m_copy_rewards f_m_with_rewards f_m_shape_rewards f_m_scale_rewards f_m_set_transition f_m_set_deterministic f_m_add_guarantee f_m_remove_guarantee f_m_run_episode f_m_init : Addr} {t_CHANCES t_CREATE t_EQUIVALENT t_FULL t_LAST_KIND t_MISSING t_MOST_ACTIONS t_MOST_BOTTOM t_MOST_CHANGED t_MOST_EPISODES t_MOST_FACTOR t_MOST_GUARANTEES t_MOST_RANDOM t_MOST_REWARD t_MOST_STATES t_MOST_STEPS t_MOST_VALUE t_MOST_WEIGHT t_NOT_THERE t_NO_MONITOR t_OUTSIDE t_PRESENT t_SAME_ACTIONS t_TABLES t_TOO_LARGE t_VIOLATED zt0 zt1 : Tok} {zd : Option Addr} {zn : Nat} {zs : Array (Option Value)}
    (a_common : PySem.W.nsIn K mainGlobals "common" = some (some (.ref f_common)))
    (d_common : DefK K "common" "common" sCommon f_common)
    (a_lowest : PySem.W.nsIn K mainGlobals "lowest" = some (some (.ref f_lowest)))
    (d_lowest : DefK K "lowest" "lowest" sLowest f_lowest)
    (a_plus : PySem.W.nsIn K mainGlobals "plus" = some (some (.ref f_plus)))
    (d_plus : DefK K "plus" "plus" sPlus f_plus)
    (a_minus : PySem.W.nsIn K mainGlobals "minus" = some (some (.ref f_minus)))
    (d_minus : DefK K "minus" "minus" sMinus f_minus)
    (a_times : PySem.W.nsIn K mainGlobals "times" = some (some (.ref f_times)))
    (d_times : DefK K "times" "times" sTimes f_times)
    (a_rounded_up : PySem.W.nsIn K mainGlobals "rounded_up" = some (some (.ref f_rounded_up)))
    (d_rounded_up : DefK K "rounded_up" "rounded_up" sRup f_rounded_up)
    (a_numbers_of : PySem.W.nsIn K mainGlobals "numbers_of" = some (some (.ref f_numbers_of)))
    (d_numbers_of : DefK K "numbers_of" "numbers_of" sNums f_numbers_of)
    (a_only_at : PySem.W.nsIn K mainGlobals "only_at" = some (some (.ref f_only_at)))
    (d_only_at : DefK K "only_at" "only_at" sOnly f_only_at)
    (a_new_process : PySem.W.nsIn K mainGlobals "new_process" = some (some (.ref f_new_process)))
    (d_new_process : DefK K "new_process" "new_process" sNewp f_new_process)
    (a_shaped : PySem.W.nsIn K mainGlobals "shaped" = some (some (.ref f_shaped)))
    (d_shaped : DefK K "shaped" "shaped" sShaped f_shaped)
    (a_scaled : PySem.W.nsIn K mainGlobals "scaled" = some (some (.ref f_scaled)))
    (d_scaled : DefK K "scaled" "scaled" sScaled f_scaled)
    (a_reduced : PySem.W.nsIn K mainGlobals "reduced" = some (some (.ref f_reduced)))
    (d_reduced : DefK K "reduced" "reduced" sReduced f_reduced)
    (a_are_equivalent : PySem.W.nsIn K mainGlobals "are_equivalent" = some (some (.ref f_are_equivalent)))
    (d_are_equivalent : DefK K "are_equivalent" "are_equivalent" sEquiv f_are_equivalent)
    (a_potentials_of : PySem.W.nsIn K mainGlobals "potentials_of" = some (some (.ref f_potentials_of)))
    (d_potentials_of : DefK K "potentials_of" "potentials_of" sPots f_potentials_of)
    (a_first_place : PySem.W.nsIn K mainGlobals "first_place" = some (some (.ref f_first_place)))
    (d_first_place : DefK K "first_place" "first_place" sFirst f_first_place)
    (a_factor_of : PySem.W.nsIn K mainGlobals "factor_of" = some (some (.ref f_factor_of)))
    (d_factor_of : DefK K "factor_of" "factor_of" sFactor f_factor_of)
    (a_equation : PySem.W.nsIn K mainGlobals "equation" = some (some (.ref f_equation)))
    (d_equation : DefK K "equation" "equation" sEqn f_equation)
    (a_right_side : PySem.W.nsIn K mainGlobals "right_side" = some (some (.ref f_right_side)))
    (d_right_side : DefK K "right_side" "right_side" sRs f_right_side)
    (a_without : PySem.W.nsIn K mainGlobals "without" = some (some (.ref f_without)))
    (d_without : DefK K "without" "without" sWo f_without)
    (a_determinant : PySem.W.nsIn K mainGlobals "determinant" = some (some (.ref f_determinant)))
    (d_determinant : DefK K "determinant" "determinant" sDet f_determinant)
    (a_with_column : PySem.W.nsIn K mainGlobals "with_column" = some (some (.ref f_with_column)))
    (d_with_column : DefK K "with_column" "with_column" sWcol f_with_column)
    (a_policy_values : PySem.W.nsIn K mainGlobals "policy_values" = some (some (.ref f_policy_values)))
    (d_policy_values : DefK K "policy_values" "policy_values" sPv f_policy_values)
    (a_action_value : PySem.W.nsIn K mainGlobals "action_value" = some (some (.ref f_action_value)))
    (d_action_value : DefK K "action_value" "action_value" sAv f_action_value)
    (a_is_greater : PySem.W.nsIn K mainGlobals "is_greater" = some (some (.ref f_is_greater)))
    (d_is_greater : DefK K "is_greater" "is_greater" sGr f_is_greater)
    (a_better_action : PySem.W.nsIn K mainGlobals "better_action" = some (some (.ref f_better_action)))
    (d_better_action : DefK K "better_action" "better_action" sBetter f_better_action)
    (a_improved : PySem.W.nsIn K mainGlobals "improved" = some (some (.ref f_improved)))
    (d_improved : DefK K "improved" "improved" sImproved f_improved)
    (a_best_policy : PySem.W.nsIn K mainGlobals "best_policy" = some (some (.ref f_best_policy)))
    (d_best_policy : DefK K "best_policy" "best_policy" sBest f_best_policy)
    (a_optimal_values : PySem.W.nsIn K mainGlobals "optimal_values" = some (some (.ref f_optimal_values)))
    (d_optimal_values : DefK K "optimal_values" "optimal_values" sOptv f_optimal_values)
    (a_optimal_actions : PySem.W.nsIn K mainGlobals "optimal_actions" = some (some (.ref f_optimal_actions)))
    (d_optimal_actions : DefK K "optimal_actions" "optimal_actions" sOpta f_optimal_actions)
    (a_optimal_policy : PySem.W.nsIn K mainGlobals "optimal_policy" = some (some (.ref f_optimal_policy)))
    (d_optimal_policy : DefK K "optimal_policy" "optimal_policy" sOptp f_optimal_policy)
    (a_value_fractions : PySem.W.nsIn K mainGlobals "value_fractions" = some (some (.ref f_value_fractions)))
    (d_value_fractions : DefK K "value_fractions" "value_fractions" sVf f_value_fractions)
    (a_regrets : PySem.W.nsIn K mainGlobals "regrets" = some (some (.ref f_regrets)))
    (d_regrets : DefK K "regrets" "regrets" sRegr f_regrets)
    (a_next_state : PySem.W.nsIn K mainGlobals "next_state" = some (some (.ref f_next_state)))
    (d_next_state : DefK K "next_state" "next_state" sNext f_next_state)
    (a_steps_from : PySem.W.nsIn K mainGlobals "steps_from" = some (some (.ref f_steps_from)))
    (d_steps_from : DefK K "steps_from" "steps_from" sSteps f_steps_from)
    (a_return_by : PySem.W.nsIn K mainGlobals "return_by" = some (some (.ref f_return_by)))
    (d_return_by : DefK K "return_by" "return_by" sRet f_return_by)
    (a_episode_of : PySem.W.nsIn K mainGlobals "episode_of" = some (some (.ref f_episode_of)))
    (d_episode_of : DefK K "episode_of" "episode_of" sEp f_episode_of)
    (a_episode_numbers : PySem.W.nsIn K mainGlobals "episode_numbers" = some (some (.ref f_episode_numbers)))
    (d_episode_numbers : DefK K "episode_numbers" "episode_numbers" sEpn f_episode_numbers)
    (a_discount_over : PySem.W.nsIn K mainGlobals "discount_over" = some (some (.ref f_discount_over)))
    (d_discount_over : DefK K "discount_over" "discount_over" sDisc f_discount_over)
    (a_corrected : PySem.W.nsIn K mainGlobals "corrected" = some (some (.ref f_corrected)))
    (d_corrected : DefK K "corrected" "corrected" sCorr f_corrected)
    (a_is_guarantee : PySem.W.nsIn K mainGlobals "is_guarantee" = some (some (.ref f_is_guarantee)))
    (d_is_guarantee : DefK K "is_guarantee" "is_guarantee" sIsg f_is_guarantee)
    (a_have_same_actions : PySem.W.nsIn K mainGlobals "have_same_actions" = some (some (.ref f_have_same_actions)))
    (d_have_same_actions : DefK K "have_same_actions" "have_same_actions" sSame f_have_same_actions)
    (a_least_bound : PySem.W.nsIn K mainGlobals "least_bound" = some (some (.ref f_least_bound)))
    (d_least_bound : DefK K "least_bound" "least_bound" sLeast f_least_bound)
    (a_holds : PySem.W.nsIn K mainGlobals "holds" = some (some (.ref f_holds)))
    (d_holds : DefK K "holds" "holds" sHolds f_holds)
    (a_all_hold : PySem.W.nsIn K mainGlobals "all_hold" = some (some (.ref f_all_hold)))
    (d_all_hold : DefK K "all_hold" "all_hold" sAll f_all_hold)
    (a_are_within : PySem.W.nsIn K mainGlobals "are_within" = some (some (.ref f_are_within)))
    (d_are_within : DefK K "are_within" "are_within" sWithin f_are_within)
    (a_is_process : PySem.W.nsIn K mainGlobals "is_process" = some (some (.ref f_is_process)))
    (d_is_process : DefK K "is_process" "is_process" sIsp f_is_process)
    (a_change_answer : PySem.W.nsIn K mainGlobals "change_answer" = some (some (.ref f_change_answer)))
    (d_change_answer : DefK K "change_answer" "change_answer" (top 83) f_change_answer)
    (a_table_answer : PySem.W.nsIn K mainGlobals "table_answer" = some (some (.ref f_table_answer)))
    (d_table_answer : DefK K "table_answer" "table_answer" (top 84) f_table_answer)
    (a_guarantee_answer : PySem.W.nsIn K mainGlobals "guarantee_answer" = some (some (.ref f_guarantee_answer)))
    (d_guarantee_answer : DefK K "guarantee_answer" "guarantee_answer" (top 85) f_guarantee_answer)
    (a_episode_answer : PySem.W.nsIn K mainGlobals "episode_answer" = some (some (.ref f_episode_answer)))
    (d_episode_answer : DefK K "episode_answer" "episode_answer" (top 86) f_episode_answer)
    (a_answer : PySem.W.nsIn K mainGlobals "answer" = some (some (.ref f_answer)))
    (d_answer : DefK K "answer" "answer" (top 87) f_answer)
    (a_answers : PySem.W.nsIn K mainGlobals "answers" = some (some (.ref f_answers)))
    (d_answers : DefK K "answers" "answers" sA f_answers)
    (pcls : PySem.W.nsIn K mainGlobals "Process" = some (some (.ref C)))
    (mcls : PySem.W.nsIn K mainGlobals "Monitor" = some (some (.ref CM)))
    (ppg : PySem.W.plainGet K C Str.empty = true)
    (phd : PySem.W.hasDictIn K C = true)
    (ppo : PySem.W.plainOver K C = true)
    (psa : PySem.W.findIn K (.ref C) "__setattr__" = some (some (.builtin "object.__setattr__")))
    (pmk : PySem.W.makesIn K C = true)
    (pkc : PySem.W.keepIn K (.ref C) = true)
    (mpg : PySem.W.plainGet K CM Str.empty = true)
    (mhd : PySem.W.hasDictIn K CM = true)
    (mpo : PySem.W.plainOver K CM = true)
    (msa : PySem.W.findIn K (.ref CM) "__setattr__" = some (some (.builtin "object.__setattr__")))
    (mmk : PySem.W.makesIn K CM = true)
    (mkc : PySem.W.keepIn K (.ref CM) = true)
    (pn_states : PySem.W.findIn K (.ref C) "states" = some none)
    (pn_actions : PySem.W.findIn K (.ref C) "actions" = some none)
    (pn_top : PySem.W.findIn K (.ref C) "top" = some none)
    (pn_bottom : PySem.W.findIn K (.ref C) "bottom" = some none)
    (pn_tables : PySem.W.findIn K (.ref C) "tables" = some none)
    (pn_weights : PySem.W.findIn K (.ref C) "weights" = some none)
    (mn_process : PySem.W.findIn K (.ref CM) "process" = some none)
    (mn_guarantees : PySem.W.findIn K (.ref CM) "guarantees" = some none)
    (mn_episodes : PySem.W.findIn K (.ref CM) "episodes" = some none)
    (pa_init : PySem.W.findIn K (.ref C) "__init__" = some (some (.ref f_p_init)))
    (pi_init : PySem.W.isFn K (.ref f_p_init) = true)
    (pd_init : DefK K "__init__" "Process.__init__" sPI f_p_init)
    (pa_reward_count : PySem.W.findIn K (.ref C) "reward_count" = some (some (.ref f_p_reward_count)))
    (pi_reward_count : PySem.W.isFn K (.ref f_p_reward_count) = true)
    (pd_reward_count : DefK K "reward_count" "Process.reward_count" sCount f_p_reward_count)
    (pa_place : PySem.W.findIn K (.ref C) "place" = some (some (.ref f_p_place)))
    (pi_place : PySem.W.isFn K (.ref f_p_place) = true)
    (pd_place : DefK K "place" "Process.place" sPlace f_p_place)
    (pa_reward : PySem.W.findIn K (.ref C) "reward" = some (some (.ref f_p_reward)))
    (pi_reward : PySem.W.isFn K (.ref f_p_reward) = true)
    (pd_reward : DefK K "reward" "Process.reward" sReward f_p_reward)
    (pa_weights_of : PySem.W.findIn K (.ref C) "weights_of" = some (some (.ref f_p_weights_of)))
    (pi_weights_of : PySem.W.isFn K (.ref f_p_weights_of) = true)
    (pd_weights_of : DefK K "weights_of" "Process.weights_of" sWof f_p_weights_of)
    (pa_keys : PySem.W.findIn K (.ref C) "keys" = some (some (.ref f_p_keys)))
    (pi_keys : PySem.W.isFn K (.ref f_p_keys) = true)
    (pd_keys : DefK K "keys" "Process.keys" sKeys f_p_keys)
    (pa_with_table : PySem.W.findIn K (.ref C) "with_table" = some (some (.ref f_p_with_table)))
    (pi_with_table : PySem.W.isFn K (.ref f_p_with_table) = true)
    (pd_with_table : DefK K "with_table" "Process.with_table" sWtab f_p_with_table)
    (pa_with_weights : PySem.W.findIn K (.ref C) "with_weights" = some (some (.ref f_p_with_weights)))
    (pi_with_weights : PySem.W.isFn K (.ref f_p_with_weights) = true)
    (pd_with_weights : DefK K "with_weights" "Process.with_weights" sWwei f_p_with_weights)
    (ma_has_state : PySem.W.findIn K (.ref CM) "has_state" = some (some (.ref f_m_has_state)))
    (mi_has_state : PySem.W.isFn K (.ref f_m_has_state) = true)
    (md_has_state : DefK K "has_state" "Monitor.has_state" (inM 2) f_m_has_state)
    (ma_has_action : PySem.W.findIn K (.ref CM) "has_action" = some (some (.ref f_m_has_action)))
    (mi_has_action : PySem.W.isFn K (.ref f_m_has_action) = true)
    (md_has_action : DefK K "has_action" "Monitor.has_action" (inM 3) f_m_has_action)
    (ma_equivalent : PySem.W.findIn K (.ref CM) "equivalent" = some (some (.ref f_m_equivalent)))
    (mi_equivalent : PySem.W.isFn K (.ref f_m_equivalent) = true)
    (md_equivalent : DefK K "equivalent" "Monitor.equivalent" (inM 12) f_m_equivalent)
    (ma_potentials : PySem.W.findIn K (.ref CM) "potentials" = some (some (.ref f_m_potentials)))
    (mi_potentials : PySem.W.isFn K (.ref f_m_potentials) = true)
    (md_potentials : DefK K "potentials" "Monitor.potentials" (inM 13) f_m_potentials)
    (ma_equivalence_factor : PySem.W.findIn K (.ref CM) "equivalence_factor" = some (some (.ref f_m_equivalence_factor)))
    (mi_equivalence_factor : PySem.W.isFn K (.ref f_m_equivalence_factor) = true)
    (md_equivalence_factor : DefK K "equivalence_factor" "Monitor.equivalence_factor" (inM 14) f_m_equivalence_factor)
    (ma_same_optimal_actions : PySem.W.findIn K (.ref CM) "same_optimal_actions" = some (some (.ref f_m_same_optimal_actions)))
    (mi_same_optimal_actions : PySem.W.isFn K (.ref f_m_same_optimal_actions) = true)
    (md_same_optimal_actions : DefK K "same_optimal_actions" "Monitor.same_optimal_actions" (inM 15) f_m_same_optimal_actions)
    (ma_best_values : PySem.W.findIn K (.ref CM) "best_values" = some (some (.ref f_m_best_values)))
    (mi_best_values : PySem.W.isFn K (.ref f_m_best_values) = true)
    (md_best_values : DefK K "best_values" "Monitor.best_values" (inM 16) f_m_best_values)
    (ma_policy : PySem.W.findIn K (.ref CM) "policy" = some (some (.ref f_m_policy)))
    (mi_policy : PySem.W.isFn K (.ref f_m_policy) = true)
    (md_policy : DefK K "policy" "Monitor.policy" (inM 17) f_m_policy)
    (ma_all_regrets : PySem.W.findIn K (.ref CM) "all_regrets" = some (some (.ref f_m_all_regrets)))
    (mi_all_regrets : PySem.W.isFn K (.ref f_m_all_regrets) = true)
    (md_all_regrets : DefK K "all_regrets" "Monitor.all_regrets" (inM 18) f_m_all_regrets)
    (ma_get_guarantee : PySem.W.findIn K (.ref CM) "get_guarantee" = some (some (.ref f_m_get_guarantee)))
    (mi_get_guarantee : PySem.W.isFn K (.ref f_m_get_guarantee) = true)
    (md_get_guarantee : DefK K "get_guarantee" "Monitor.get_guarantee" (inM 21) f_m_get_guarantee)
    (ma_check_guarantee : PySem.W.findIn K (.ref CM) "check_guarantee" = some (some (.ref f_m_check_guarantee)))
    (mi_check_guarantee : PySem.W.isFn K (.ref f_m_check_guarantee) = true)
    (md_check_guarantee : DefK K "check_guarantee" "Monitor.check_guarantee" (inM 22) f_m_check_guarantee)
    (ma_least_regret_bound : PySem.W.findIn K (.ref CM) "least_regret_bound" = some (some (.ref f_m_least_regret_bound)))
    (mi_least_regret_bound : PySem.W.isFn K (.ref f_m_least_regret_bound) = true)
    (md_least_regret_bound : DefK K "least_regret_bound" "Monitor.least_regret_bound" (inM 23) f_m_least_regret_bound)
    (ma_episode_error : PySem.W.findIn K (.ref CM) "episode_error" = some (some (.ref f_m_episode_error)))
    (mi_episode_error : PySem.W.isFn K (.ref f_m_episode_error) = true)
    (md_episode_error : DefK K "episode_error" "Monitor.episode_error" (inM 24) f_m_episode_error)
    (ma_preview_episode : PySem.W.findIn K (.ref CM) "preview_episode" = some (some (.ref f_m_preview_episode)))
    (mi_preview_episode : PySem.W.isFn K (.ref f_m_preview_episode) = true)
    (md_preview_episode : DefK K "preview_episode" "Monitor.preview_episode" (inM 26) f_m_preview_episode)
    (ma_get_episode : PySem.W.findIn K (.ref CM) "get_episode" = some (some (.ref f_m_get_episode)))
    (mi_get_episode : PySem.W.isFn K (.ref f_m_get_episode) = true)
    (md_get_episode : DefK K "get_episode" "Monitor.get_episode" (inM 27) f_m_get_episode)
    (ma_total_returns : PySem.W.findIn K (.ref CM) "total_returns" = some (some (.ref f_m_total_returns)))
    (mi_total_returns : PySem.W.isFn K (.ref f_m_total_returns) = true)
    (md_total_returns : DefK K "total_returns" "Monitor.total_returns" (inM 28) f_m_total_returns)
    (ma_corrected_return : PySem.W.findIn K (.ref CM) "corrected_return" = some (some (.ref f_m_corrected_return)))
    (mi_corrected_return : PySem.W.isFn K (.ref f_m_corrected_return) = true)
    (md_corrected_return : DefK K "corrected_return" "Monitor.corrected_return" (inM 29) f_m_corrected_return)
    (ma_status : PySem.W.findIn K (.ref CM) "status" = some (some (.ref f_m_status)))
    (mi_status : PySem.W.isFn K (.ref f_m_status) = true)
    (md_status : DefK K "status" "Monitor.status" (inM 30) f_m_status)
    (ma_changed : PySem.W.findIn K (.ref CM) "changed" = some (some (.ref f_m_changed)))
    (mi_changed : PySem.W.isFn K (.ref f_m_changed) = true)
    (md_changed : DefK K "changed" "Monitor.changed" (inM 1) f_m_changed)
    (ma_set_reward : PySem.W.findIn K (.ref CM) "set_reward" = some (some (.ref f_m_set_reward)))
    (mi_set_reward : PySem.W.isFn K (.ref f_m_set_reward) = true)
    (md_set_reward : DefK K "set_reward" "Monitor.set_reward" (inM 4) f_m_set_reward)
    (ma_set_rewards : PySem.W.findIn K (.ref CM) "set_rewards" = some (some (.ref f_m_set_rewards)))
    (mi_set_rewards : PySem.W.isFn K (.ref f_m_set_rewards) = true)
    (md_set_rewards : DefK K "set_rewards" "Monitor.set_rewards" (inM 5) f_m_set_rewards)
    (ma_copy_rewards : PySem.W.findIn K (.ref CM) "copy_rewards" = some (some (.ref f_m_copy_rewards)))
    (mi_copy_rewards : PySem.W.isFn K (.ref f_m_copy_rewards) = true)
    (md_copy_rewards : DefK K "copy_rewards" "Monitor.copy_rewards" (inM 6) f_m_copy_rewards)
    (ma_with_rewards : PySem.W.findIn K (.ref CM) "with_rewards" = some (some (.ref f_m_with_rewards)))
    (mi_with_rewards : PySem.W.isFn K (.ref f_m_with_rewards) = true)
    (md_with_rewards : DefK K "with_rewards" "Monitor.with_rewards" (inM 7) f_m_with_rewards)
    (ma_shape_rewards : PySem.W.findIn K (.ref CM) "shape_rewards" = some (some (.ref f_m_shape_rewards)))
    (mi_shape_rewards : PySem.W.isFn K (.ref f_m_shape_rewards) = true)
    (md_shape_rewards : DefK K "shape_rewards" "Monitor.shape_rewards" (inM 8) f_m_shape_rewards)
    (ma_scale_rewards : PySem.W.findIn K (.ref CM) "scale_rewards" = some (some (.ref f_m_scale_rewards)))
    (mi_scale_rewards : PySem.W.isFn K (.ref f_m_scale_rewards) = true)
    (md_scale_rewards : DefK K "scale_rewards" "Monitor.scale_rewards" (inM 9) f_m_scale_rewards)
    (ma_set_transition : PySem.W.findIn K (.ref CM) "set_transition" = some (some (.ref f_m_set_transition)))
    (mi_set_transition : PySem.W.isFn K (.ref f_m_set_transition) = true)
    (md_set_transition : DefK K "set_transition" "Monitor.set_transition" (inM 10) f_m_set_transition)
    (ma_set_deterministic : PySem.W.findIn K (.ref CM) "set_deterministic" = some (some (.ref f_m_set_deterministic)))
    (mi_set_deterministic : PySem.W.isFn K (.ref f_m_set_deterministic) = true)
    (md_set_deterministic : DefK K "set_deterministic" "Monitor.set_deterministic" (inM 11) f_m_set_deterministic)
    (ma_add_guarantee : PySem.W.findIn K (.ref CM) "add_guarantee" = some (some (.ref f_m_add_guarantee)))
    (mi_add_guarantee : PySem.W.isFn K (.ref f_m_add_guarantee) = true)
    (md_add_guarantee : DefK K "add_guarantee" "Monitor.add_guarantee" (inM 19) f_m_add_guarantee)
    (ma_remove_guarantee : PySem.W.findIn K (.ref CM) "remove_guarantee" = some (some (.ref f_m_remove_guarantee)))
    (mi_remove_guarantee : PySem.W.isFn K (.ref f_m_remove_guarantee) = true)
    (md_remove_guarantee : DefK K "remove_guarantee" "Monitor.remove_guarantee" (inM 20) f_m_remove_guarantee)
    (ma_run_episode : PySem.W.findIn K (.ref CM) "run_episode" = some (some (.ref f_m_run_episode)))
    (mi_run_episode : PySem.W.isFn K (.ref f_m_run_episode) = true)
    (md_run_episode : DefK K "run_episode" "Monitor.run_episode" (inM 25) f_m_run_episode)
    (ma_init : PySem.W.findIn K (.ref CM) "__init__" = some (some (.ref f_m_init)))
    (mi_init : PySem.W.isFn K (.ref f_m_init) = true)
    (md_init : DefK K "__init__" "Monitor.__init__" (inM 0) f_m_init)
    (j_CHANCES : PySem.W.nsIn K mainGlobals "CHANCES" = some (some (.int (1000) t_CHANCES)))
    (j_CREATE : PySem.W.nsIn K mainGlobals "CREATE" = some (some (.int (0) t_CREATE)))
    (j_EQUIVALENT : PySem.W.nsIn K mainGlobals "EQUIVALENT" = some (some (.int (0) t_EQUIVALENT)))
    (j_FULL : PySem.W.nsIn K mainGlobals "FULL" = some (some (.int (-28) t_FULL)))
    (j_LAST_KIND : PySem.W.nsIn K mainGlobals "LAST_KIND" = some (some (.int (2) t_LAST_KIND)))
    (j_MISSING : PySem.W.nsIn K mainGlobals "MISSING" = some (some (.int (-2) t_MISSING)))
    (j_MOST_ACTIONS : PySem.W.nsIn K mainGlobals "MOST_ACTIONS" = some (some (.int (3) t_MOST_ACTIONS)))
    (j_MOST_BOTTOM : PySem.W.nsIn K mainGlobals "MOST_BOTTOM" = some (some (.int (10) t_MOST_BOTTOM)))
    (j_MOST_CHANGED : PySem.W.nsIn K mainGlobals "MOST_CHANGED" = some (some (.int (100000) t_MOST_CHANGED)))
    (j_MOST_EPISODES : PySem.W.nsIn K mainGlobals "MOST_EPISODES" = some (some (.int (12) t_MOST_EPISODES)))
    (j_MOST_FACTOR : PySem.W.nsIn K mainGlobals "MOST_FACTOR" = some (some (.int (100) t_MOST_FACTOR)))
    (j_MOST_GUARANTEES : PySem.W.nsIn K mainGlobals "MOST_GUARANTEES" = some (some (.int (3) t_MOST_GUARANTEES)))
    (j_MOST_RANDOM : PySem.W.nsIn K mainGlobals "MOST_RANDOM" = some (some (.int (999) t_MOST_RANDOM)))
    (j_MOST_REWARD : PySem.W.nsIn K mainGlobals "MOST_REWARD" = some (some (.int (1000) t_MOST_REWARD)))
    (j_MOST_STATES : PySem.W.nsIn K mainGlobals "MOST_STATES" = some (some (.int (4) t_MOST_STATES)))
    (j_MOST_STEPS : PySem.W.nsIn K mainGlobals "MOST_STEPS" = some (some (.int (6) t_MOST_STEPS)))
    (j_MOST_VALUE : PySem.W.nsIn K mainGlobals "MOST_VALUE" = some (some (.int (100000) t_MOST_VALUE)))
    (j_MOST_WEIGHT : PySem.W.nsIn K mainGlobals "MOST_WEIGHT" = some (some (.int (9) t_MOST_WEIGHT)))
    (j_NOT_THERE : PySem.W.nsIn K mainGlobals "NOT_THERE" = some (some (.int (-33) t_NOT_THERE)))
    (j_NO_MONITOR : PySem.W.nsIn K mainGlobals "NO_MONITOR" = some (some (.int (-11) t_NO_MONITOR)))
    (j_OUTSIDE : PySem.W.nsIn K mainGlobals "OUTSIDE" = some (some (.int (-22) t_OUTSIDE)))
    (j_PRESENT : PySem.W.nsIn K mainGlobals "PRESENT" = some (some (.int (-17) t_PRESENT)))
    (j_SAME_ACTIONS : PySem.W.nsIn K mainGlobals "SAME_ACTIONS" = some (some (.int (1) t_SAME_ACTIONS)))
    (j_TABLES : PySem.W.nsIn K mainGlobals "TABLES" = some (some (.int (2) t_TABLES)))
    (j_TOO_LARGE : PySem.W.nsIn K mainGlobals "TOO_LARGE" = some (some (.int (-75) t_TOO_LARGE)))
    (j_VIOLATED : PySem.W.nsIn K mainGlobals "VIOLATED" = some (some (.int (-30) t_VIOLATED)))
    (e_abs : PySem.W.nsIn K mainGlobals "abs" = some none)
    (e_all : PySem.W.nsIn K mainGlobals "all" = some none)
    (e_int : PySem.W.nsIn K mainGlobals "int" = some none)
    (e_len : PySem.W.nsIn K mainGlobals "len" = some none)
    (e_list : PySem.W.nsIn K mainGlobals "list" = some none)
    (e_max : PySem.W.nsIn K mainGlobals "max" = some none)
    (e_range : PySem.W.nsIn K mainGlobals "range" = some none)
    (e_sum : PySem.W.nsIn K mainGlobals "sum" = some none)
    (e_zip : PySem.W.nsIn K mainGlobals "zip" = some none)
    (za : PySem.W.nsIn K mainGlobals "ZERO" = some (some (.ref z)))
    (zl : K.lookup z = some ⟨.type "tuple", zd, .seq #[.int 0 zt0, .int 1 zt1] zn, zs⟩) :
    ∃ fd : FuncData, (∀ (s : Shared) (us : List Value), us.length = (["calls"] : List Str).length → BindsTo s fd ⟨us, []⟩ ((["calls"] : List Str).zip us)) ∧ ∀ base : Heap, K.In base → base.Ns mainGlobals mg → FnOk P w K mg base CX0 25 fa fd ["calls"] (spFin K) := by
  have e := hfa.symm.trans (PySem.W.mg_of X G a_answers)
  cases e
  have m_Process := PySem.W.mg_of X G pcls
  have m_Monitor := PySem.W.mg_of X G mcls
  have pt : PTxt K C := ⟨⟨ppg, phd, ppo, psa⟩, pn_states, pn_actions, pn_top, pn_bottom, pn_tables, pn_weights⟩
  have mt : MTxt K CM := ⟨⟨mpg, mhd, mpo, msa⟩, mn_process, mn_guarantees, mn_episodes⟩
  have i_CHANCES : MgI mg "CHANCES" (1000) := ⟨_, PySem.W.mg_of X G j_CHANCES⟩
  have i_CREATE : MgI mg "CREATE" (0) := ⟨_, PySem.W.mg_of X G j_CREATE⟩
  have i_EQUIVALENT : MgI mg "EQUIVALENT" (0) := ⟨_, PySem.W.mg_of X G j_EQUIVALENT⟩
  have i_FULL : MgI mg "FULL" (-28) := ⟨_, PySem.W.mg_of X G j_FULL⟩
  have i_LAST_KIND : MgI mg "LAST_KIND" (2) := ⟨_, PySem.W.mg_of X G j_LAST_KIND⟩
  have i_MISSING : MgI mg "MISSING" (-2) := ⟨_, PySem.W.mg_of X G j_MISSING⟩
  have i_MOST_ACTIONS : MgI mg "MOST_ACTIONS" (3) := ⟨_, PySem.W.mg_of X G j_MOST_ACTIONS⟩
  have i_MOST_BOTTOM : MgI mg "MOST_BOTTOM" (10) := ⟨_, PySem.W.mg_of X G j_MOST_BOTTOM⟩
  have i_MOST_CHANGED : MgI mg "MOST_CHANGED" (100000) := ⟨_, PySem.W.mg_of X G j_MOST_CHANGED⟩
  have i_MOST_EPISODES : MgI mg "MOST_EPISODES" (12) := ⟨_, PySem.W.mg_of X G j_MOST_EPISODES⟩
  have i_MOST_FACTOR : MgI mg "MOST_FACTOR" (100) := ⟨_, PySem.W.mg_of X G j_MOST_FACTOR⟩
  have i_MOST_GUARANTEES : MgI mg "MOST_GUARANTEES" (3) := ⟨_, PySem.W.mg_of X G j_MOST_GUARANTEES⟩
  have i_MOST_RANDOM : MgI mg "MOST_RANDOM" (999) := ⟨_, PySem.W.mg_of X G j_MOST_RANDOM⟩
  have i_MOST_REWARD : MgI mg "MOST_REWARD" (1000) := ⟨_, PySem.W.mg_of X G j_MOST_REWARD⟩
  have i_MOST_STATES : MgI mg "MOST_STATES" (4) := ⟨_, PySem.W.mg_of X G j_MOST_STATES⟩
  have i_MOST_STEPS : MgI mg "MOST_STEPS" (6) := ⟨_, PySem.W.mg_of X G j_MOST_STEPS⟩
  have i_MOST_VALUE : MgI mg "MOST_VALUE" (100000) := ⟨_, PySem.W.mg_of X G j_MOST_VALUE⟩
  have i_MOST_WEIGHT : MgI mg "MOST_WEIGHT" (9) := ⟨_, PySem.W.mg_of X G j_MOST_WEIGHT⟩
  have i_NOT_THERE : MgI mg "NOT_THERE" (-33) := ⟨_, PySem.W.mg_of X G j_NOT_THERE⟩
  have i_NO_MONITOR : MgI mg "NO_MONITOR" (-11) := ⟨_, PySem.W.mg_of X G j_NO_MONITOR⟩
  have i_OUTSIDE : MgI mg "OUTSIDE" (-22) := ⟨_, PySem.W.mg_of X G j_OUTSIDE⟩
  have i_PRESENT : MgI mg "PRESENT" (-17) := ⟨_, PySem.W.mg_of X G j_PRESENT⟩
  have i_SAME_ACTIONS : MgI mg "SAME_ACTIONS" (1) := ⟨_, PySem.W.mg_of X G j_SAME_ACTIONS⟩
  have i_TABLES : MgI mg "TABLES" (2) := ⟨_, PySem.W.mg_of X G j_TABLES⟩
  have i_TOO_LARGE : MgI mg "TOO_LARGE" (-75) := ⟨_, PySem.W.mg_of X G j_TOO_LARGE⟩
  have i_VIOLATED : MgI mg "VIOLATED" (-30) := ⟨_, PySem.W.mg_of X G j_VIOLATED⟩
  have n_abs : MgN mg "abs" := PySem.W.mg_none_of X G e_abs
  have n_all : MgN mg "all" := PySem.W.mg_none_of X G e_all
  have n_int : MgN mg "int" := PySem.W.mg_none_of X G e_int
  have n_len : MgN mg "len" := PySem.W.mg_none_of X G e_len
  have n_list : MgN mg "list" := PySem.W.mg_none_of X G e_list
  have n_max : MgN mg "max" := PySem.W.mg_none_of X G e_max
  have n_range : MgN mg "range" := PySem.W.mg_none_of X G e_range
  have n_sum : MgN mg "sum" := PySem.W.mg_none_of X G e_sum
  have n_zip : MgN mg "zip" := PySem.W.mg_none_of X G e_zip
  have gz : MgZ K C mg := zero_ok (PySem.W.mg_of X G za) zl
  obtain ⟨fd_answers, F_answers⟩ := d_answers.ex
  refine ⟨fd_answers, fun s us hl => ?_, fun base KB GB => ?_⟩
  · obtain ⟨oc, od, kV, doc, pm, an, cdv, ct, osl, rfl, lk, hcd⟩ := F_answers.ex
    match us, hl with
    | [_], _ => exact .of_eq rfl
  obtain ⟨fd_common, F_common⟩ := d_common.ex
  have m_common := PySem.W.mg_of X G a_common
  have b_common : Binds K fd_common ["one", "other"] [] := F_common.binds fun _ _ _ _ _ _ us hl => match us, hl with | [_, _], _ => rfl
  have c_common : Cal P w K mg base 1 "common" (spD K C R_common) := ⟨_, _, ["one", "other"], ok_common F_common , m_common, F_common.kp, b_common⟩
  obtain ⟨fd_lowest, F_lowest⟩ := d_lowest.ex
  have m_lowest := PySem.W.mg_of X G a_lowest
  have b_lowest : Binds K fd_lowest ["top", "bottom"] [] := F_lowest.binds fun _ _ _ _ _ _ us hl => match us, hl with | [_, _], _ => rfl
  have c_lowest : Cal P w K mg base 2 "lowest" (spD K C R_lowest) := ⟨_, _, ["top", "bottom"], ok_lowest F_lowest c_common n_abs, m_lowest, F_lowest.kp, b_lowest⟩
  obtain ⟨fd_plus, F_plus⟩ := d_plus.ex
  have m_plus := PySem.W.mg_of X G a_plus
  have b_plus : Binds K fd_plus ["one", "other"] [] := F_plus.binds fun _ _ _ _ _ _ us hl => match us, hl with | [_, _], _ => rfl
  have c_plus : Cal P w K mg base 3 "plus" (spD K C R_plus) := ⟨_, _, ["one", "other"], ok_plus F_plus c_lowest, m_plus, F_plus.kp, b_plus⟩
  obtain ⟨fd_minus, F_minus⟩ := d_minus.ex
  have m_minus := PySem.W.mg_of X G a_minus
  have b_minus : Binds K fd_minus ["one", "other"] [] := F_minus.binds fun _ _ _ _ _ _ us hl => match us, hl with | [_, _], _ => rfl
  have c_minus : Cal P w K mg base 3 "minus" (spD K C R_minus) := ⟨_, _, ["one", "other"], ok_minus F_minus c_lowest, m_minus, F_minus.kp, b_minus⟩
  obtain ⟨fd_times, F_times⟩ := d_times.ex
  have m_times := PySem.W.mg_of X G a_times
  have b_times : Binds K fd_times ["one", "other"] [] := F_times.binds fun _ _ _ _ _ _ us hl => match us, hl with | [_, _], _ => rfl
  have c_times : Cal P w K mg base 3 "times" (spD K C R_times) := ⟨_, _, ["one", "other"], ok_times F_times c_lowest, m_times, F_times.kp, b_times⟩
  obtain ⟨fd_rounded_up, F_rounded_up⟩ := d_rounded_up.ex
  have m_rounded_up := PySem.W.mg_of X G a_rounded_up
  have b_rounded_up : Binds K fd_rounded_up ["one"] [] := F_rounded_up.binds fun _ _ _ _ _ _ us hl => match us, hl with | [_], _ => rfl
  have c_rounded_up : Cal P w K mg base 1 "rounded_up" (spD K C R_rup) := ⟨_, _, ["one"], ok_rup F_rounded_up , m_rounded_up, F_rounded_up.kp, b_rounded_up⟩
  obtain ⟨fd_numbers_of, F_numbers_of⟩ := d_numbers_of.ex
  have m_numbers_of := PySem.W.mg_of X G a_numbers_of
  have b_numbers_of : Binds K fd_numbers_of ["fractions"] [] := F_numbers_of.binds fun _ _ _ _ _ _ us hl => match us, hl with | [_], _ => rfl
  have c_numbers_of : Cal P w K mg base 1 "numbers_of" (spD K C R_nums) := ⟨_, _, ["fractions"], ok_nums F_numbers_of , m_numbers_of, F_numbers_of.kp, b_numbers_of⟩
  obtain ⟨fd_p_init, F_p_init⟩ := pd_init.ex
  have o_p_init := ok_PI (P := P) (w := w) (mg := mg) (base := base) F_p_init pt
  obtain ⟨fd_p_reward_count, F_p_reward_count⟩ := pd_reward_count.ex
  have mp_reward_count : MetC P w K mg base 1 C "reward_count" (spD K C R_count) := ⟨_, _, ["self"], ok_count F_p_reward_count pt, ⟨pa_reward_count, pi_reward_count, F_p_reward_count.kp⟩, F_p_reward_count.binds fun _ _ _ _ _ _ us hl => match us, hl with | [_], _ => rfl⟩
  obtain ⟨fd_p_place, F_p_place⟩ := pd_place.ex
  have mp_place : MetC P w K mg base 1 C "place" (spD K C R_place) := ⟨_, _, ["self", "state", "action", "later"], ok_place F_p_place pt, ⟨pa_place, pi_place, F_p_place.kp⟩, F_p_place.binds fun _ _ _ _ _ _ us hl => match us, hl with | [_, _, _, _], _ => rfl⟩
  obtain ⟨fd_p_reward, F_p_reward⟩ := pd_reward.ex
  have mp_reward : MetC P w K mg base 2 C "reward" (spD K C R_reward) := ⟨_, _, ["self", "table", "state", "action", "later"], ok_reward F_p_reward pt mp_place, ⟨pa_reward, pi_reward, F_p_reward.kp⟩, F_p_reward.binds fun _ _ _ _ _ _ us hl => match us, hl with | [_, _, _, _, _], _ => rfl⟩
  obtain ⟨fd_p_weights_of, F_p_weights_of⟩ := pd_weights_of.ex
  have mp_weights_of : MetC P w K mg base 1 C "weights_of" (spD K C R_wof) := ⟨_, _, ["self", "state", "action"], ok_wof F_p_weights_of pt, ⟨pa_weights_of, pi_weights_of, F_p_weights_of.kp⟩, F_p_weights_of.binds fun _ _ _ _ _ _ us hl => match us, hl with | [_, _, _], _ => rfl⟩
  obtain ⟨fd_p_keys, F_p_keys⟩ := pd_keys.ex
  have mp_keys : MetC P w K mg base 1 C "keys" (spD K C R_keys) := ⟨_, _, ["self"], ok_keys F_p_keys pt n_range, ⟨pa_keys, pi_keys, F_p_keys.kp⟩, F_p_keys.binds fun _ _ _ _ _ _ us hl => match us, hl with | [_], _ => rfl⟩
  have mkp : MkP P w K mg base 1 C := ⟨_, _, _, ⟨pmk, pa_init, pi_init, pkc⟩, o_p_init, m_Process, F_p_init.binds fun _ _ _ _ _ _ us hl => match us, hl with | [_, _, _, _, _, _, _], _ => rfl⟩
  obtain ⟨fd_p_with_table, F_p_with_table⟩ := pd_with_table.ex
  have mp_with_table : MetC P w K mg base 3 C "with_table" (spD K C R_wtab) := ⟨_, _, ["self", "table", "rewards"], ok_wtab F_p_with_table pt mkp, ⟨pa_with_table, pi_with_table, F_p_with_table.kp⟩, F_p_with_table.binds fun _ _ _ _ _ _ us hl => match us, hl with | [_, _, _], _ => rfl⟩
  obtain ⟨fd_p_with_weights, F_p_with_weights⟩ := pd_with_weights.ex
  have mp_with_weights : MetC P w K mg base 3 C "with_weights" (spD K C R_wwei) := ⟨_, _, ["self", "weights"], ok_wwei F_p_with_weights pt mkp, ⟨pa_with_weights, pi_with_weights, F_p_with_weights.kp⟩, F_p_with_weights.binds fun _ _ _ _ _ _ us hl => match us, hl with | [_, _], _ => rfl⟩
  obtain ⟨fd_only_at, F_only_at⟩ := d_only_at.ex
  have m_only_at := PySem.W.mg_of X G a_only_at
  have b_only_at : Binds K fd_only_at ["states", "later"] [] := F_only_at.binds fun _ _ _ _ _ _ us hl => match us, hl with | [_, _], _ => rfl
  have c_only_at : Cal P w K mg base 1 "only_at" (spD K C R_only) := ⟨_, _, ["states", "later"], ok_only F_only_at n_range n_int, m_only_at, F_only_at.kp, b_only_at⟩
  obtain ⟨fd_new_process, F_new_process⟩ := d_new_process.ex
  have m_new_process := PySem.W.mg_of X G a_new_process
  have b_new_process : Binds K fd_new_process ["states", "actions", "top", "bottom"] [] := F_new_process.binds fun _ _ _ _ _ _ us hl => match us, hl with | [_, _, _, _], _ => rfl
  have c_new_process : Cal P w K mg base 3 "new_process" (spD K C R_newp) := ⟨_, _, ["states", "actions", "top", "bottom"], ok_newp F_new_process n_range c_only_at mkp, m_new_process, F_new_process.kp, b_new_process⟩
  have g1 : PG1 P w K mg base C := ⟨pt, n_range, mp_reward, mp_weights_of, mp_keys⟩
  obtain ⟨fd_shaped, F_shaped⟩ := d_shaped.ex
  have m_shaped := PySem.W.mg_of X G a_shaped
  have b_shaped : Binds K fd_shaped ["process", "table", "potentials"] [] := F_shaped.binds fun _ _ _ _ _ _ us hl => match us, hl with | [_, _, _], _ => rfl
  have c_shaped : Cal P w K mg base 3 "shaped" (spD K C R_shaped) := ⟨_, _, ["process", "table", "potentials"], ok_shaped F_shaped g1, m_shaped, F_shaped.kp, b_shaped⟩
  obtain ⟨fd_scaled, F_scaled⟩ := d_scaled.ex
  have m_scaled := PySem.W.mg_of X G a_scaled
  have b_scaled : Binds K fd_scaled ["process", "table", "factor"] [] := F_scaled.binds fun _ _ _ _ _ _ us hl => match us, hl with | [_, _, _], _ => rfl
  have c_scaled : Cal P w K mg base 1 "scaled" (spD K C R_scaled) := ⟨_, _, ["process", "table", "factor"], ok_scaled F_scaled pt, m_scaled, F_scaled.kp, b_scaled⟩
  obtain ⟨fd_reduced, F_reduced⟩ := d_reduced.ex
  have m_reduced := PySem.W.mg_of X G a_reduced
  have b_reduced : Binds K fd_reduced ["process", "table"] [] := F_reduced.binds fun _ _ _ _ _ _ us hl => match us, hl with | [_, _], _ => rfl
  have c_reduced : Cal P w K mg base 3 "reduced" (spD K C R_reduced) := ⟨_, _, ["process", "table"], ok_reduced F_reduced g1, m_reduced, F_reduced.kp, b_reduced⟩
  obtain ⟨fd_are_equivalent, F_are_equivalent⟩ := d_are_equivalent.ex
  have m_are_equivalent := PySem.W.mg_of X G a_are_equivalent
  have b_are_equivalent : Binds K fd_are_equivalent ["process"] [] := F_are_equivalent.binds fun _ _ _ _ _ _ us hl => match us, hl with | [_], _ => rfl
  have c_are_equivalent : Cal P w K mg base 4 "are_equivalent" (spD K C R_equiv) := ⟨_, _, ["process"], ok_equiv F_are_equivalent c_reduced, m_are_equivalent, F_are_equivalent.kp, b_are_equivalent⟩
  obtain ⟨fd_potentials_of, F_potentials_of⟩ := d_potentials_of.ex
  have m_potentials_of := PySem.W.mg_of X G a_potentials_of
  have b_potentials_of : Binds K fd_potentials_of ["process"] [] := F_potentials_of.binds fun _ _ _ _ _ _ us hl => match us, hl with | [_], _ => rfl
  have c_potentials_of : Cal P w K mg base 3 "potentials_of" (spD K C R_pots) := ⟨_, _, ["process"], ok_pots F_potentials_of g1 c_lowest, m_potentials_of, F_potentials_of.kp, b_potentials_of⟩
  obtain ⟨fd_first_place, F_first_place⟩ := d_first_place.ex
  have m_first_place := PySem.W.mg_of X G a_first_place
  have b_first_place : Binds K fd_first_place ["numbers"] [] := F_first_place.binds fun _ _ _ _ _ _ us hl => match us, hl with | [_], _ => rfl
  have c_first_place : Cal P w K mg base 1 "first_place" (spD K C R_first) := ⟨_, _, ["numbers"], ok_first F_first_place n_range n_len, m_first_place, F_first_place.kp, b_first_place⟩
  obtain ⟨fd_factor_of, F_factor_of⟩ := d_factor_of.ex
  have m_factor_of := PySem.W.mg_of X G a_factor_of
  have b_factor_of : Binds K fd_factor_of ["process"] [] := F_factor_of.binds fun _ _ _ _ _ _ us hl => match us, hl with | [_], _ => rfl
  have c_factor_of : Cal P w K mg base 4 "factor_of" (spD K C R_factor) := ⟨_, _, ["process"], ok_factor F_factor_of c_reduced c_first_place c_lowest n_range n_len n_abs, m_factor_of, F_factor_of.kp, b_factor_of⟩
  obtain ⟨fd_equation, F_equation⟩ := d_equation.ex
  have m_equation := PySem.W.mg_of X G a_equation
  have b_equation : Binds K fd_equation ["process", "state", "action"] [] := F_equation.binds fun _ _ _ _ _ _ us hl => match us, hl with | [_, _, _], _ => rfl
  have c_equation : Cal P w K mg base 2 "equation" (spD K C R_eqn) := ⟨_, _, ["process", "state", "action"], ok_eqn F_equation g1 n_sum, m_equation, F_equation.kp, b_equation⟩
  obtain ⟨fd_right_side, F_right_side⟩ := d_right_side.ex
  have m_right_side := PySem.W.mg_of X G a_right_side
  have b_right_side : Binds K fd_right_side ["process", "table", "state", "action"] [] := F_right_side.binds fun _ _ _ _ _ _ us hl => match us, hl with | [_, _, _, _], _ => rfl
  have c_right_side : Cal P w K mg base 3 "right_side" (spD K C R_rs) := ⟨_, _, ["process", "table", "state", "action"], ok_rs F_right_side g1, m_right_side, F_right_side.kp, b_right_side⟩
  obtain ⟨fd_without, F_without⟩ := d_without.ex
  have m_without := PySem.W.mg_of X G a_without
  have b_without : Binds K fd_without ["row", "place"] [] := F_without.binds fun _ _ _ _ _ _ us hl => match us, hl with | [_, _], _ => rfl
  have c_without : Cal P w K mg base 1 "without" (spD K C R_wo) := ⟨_, _, ["row", "place"], ok_wo F_without , m_without, F_without.kp, b_without⟩
  obtain ⟨fd_determinant, F_determinant⟩ := d_determinant.ex
  have m_determinant := PySem.W.mg_of X G a_determinant
  have b_determinant : Binds K fd_determinant ["rows"] [] := F_determinant.binds fun _ _ _ _ _ _ us hl => match us, hl with | [_], _ => rfl
  have c_determinant : Cal P w K mg base 6 "determinant" (spD K C R_detA) := ⟨_, _, ["rows"], det_all (ok_det F_determinant m_determinant b_determinant c_without n_range n_len), m_determinant, F_determinant.kp, b_determinant⟩
  obtain ⟨fd_with_column, F_with_column⟩ := d_with_column.ex
  have m_with_column := PySem.W.mg_of X G a_with_column
  have b_with_column : Binds K fd_with_column ["rows", "place", "column"] [] := F_with_column.binds fun _ _ _ _ _ _ us hl => match us, hl with | [_, _, _], _ => rfl
  have c_with_column : Cal P w K mg base 1 "with_column" (spD K C R_wcol) := ⟨_, _, ["rows", "place", "column"], ok_wcol F_with_column n_zip, m_with_column, F_with_column.kp, b_with_column⟩
  obtain ⟨fd_policy_values, F_policy_values⟩ := d_policy_values.ex
  have m_policy_values := PySem.W.mg_of X G a_policy_values
  have b_policy_values : Binds K fd_policy_values ["process", "table", "policy"] [] := F_policy_values.binds fun _ _ _ _ _ _ us hl => match us, hl with | [_, _, _], _ => rfl
  have c_policy_values : Cal P w K mg base 7 "policy_values" (spD K C R_pv) := ⟨_, _, ["process", "table", "policy"], ok_pv F_policy_values c_equation c_right_side c_determinant c_with_column g1, m_policy_values, F_policy_values.kp, b_policy_values⟩
  obtain ⟨fd_action_value, F_action_value⟩ := d_action_value.ex
  have m_action_value := PySem.W.mg_of X G a_action_value
  have b_action_value : Binds K fd_action_value ["process", "table", "values", "state", "action"] [] := F_action_value.binds fun _ _ _ _ _ _ us hl => match us, hl with | [_, _, _, _, _], _ => rfl
  have c_action_value : Cal P w K mg base 3 "action_value" (spD K C R_av) := ⟨_, _, ["process", "table", "values", "state", "action"], ok_av F_action_value g1 n_sum, m_action_value, F_action_value.kp, b_action_value⟩
  obtain ⟨fd_is_greater, F_is_greater⟩ := d_is_greater.ex
  have m_is_greater := PySem.W.mg_of X G a_is_greater
  have b_is_greater : Binds K fd_is_greater ["one", "other"] [] := F_is_greater.binds fun _ _ _ _ _ _ us hl => match us, hl with | [_, _], _ => rfl
  have c_is_greater : Cal P w K mg base 1 "is_greater" (spD K C R_gr) := ⟨_, _, ["one", "other"], ok_gr F_is_greater , m_is_greater, F_is_greater.kp, b_is_greater⟩
  obtain ⟨fd_better_action, F_better_action⟩ := d_better_action.ex
  have m_better_action := PySem.W.mg_of X G a_better_action
  have b_better_action : Binds K fd_better_action ["process", "table", "values", "state", "action"] [] := F_better_action.binds fun _ _ _ _ _ _ us hl => match us, hl with | [_, _, _, _, _], _ => rfl
  have c_better_action : Cal P w K mg base 4 "better_action" (spD K C R_better) := ⟨_, _, ["process", "table", "values", "state", "action"], ok_better F_better_action g1 c_action_value c_is_greater, m_better_action, F_better_action.kp, b_better_action⟩
  obtain ⟨fd_improved, F_improved⟩ := d_improved.ex
  have m_improved := PySem.W.mg_of X G a_improved
  have b_improved : Binds K fd_improved ["process", "table", "policy"] [] := F_improved.binds fun _ _ _ _ _ _ us hl => match us, hl with | [_, _, _], _ => rfl
  have c_improved : Cal P w K mg base 8 "improved" (spD K C R_improved) := ⟨_, _, ["process", "table", "policy"], ok_improved F_improved g1 c_policy_values c_better_action, m_improved, F_improved.kp, b_improved⟩
  obtain ⟨fd_best_policy, F_best_policy⟩ := d_best_policy.ex
  have m_best_policy := PySem.W.mg_of X G a_best_policy
  have b_best_policy : Binds K fd_best_policy ["process", "table"] [] := F_best_policy.binds fun _ _ _ _ _ _ us hl => match us, hl with | [_, _], _ => rfl
  have c_best_policy : Cal P w K mg base 9 "best_policy" (spD K C R_best) := ⟨_, _, ["process", "table"], ok_best F_best_policy g1 c_improved, m_best_policy, F_best_policy.kp, b_best_policy⟩
  obtain ⟨fd_optimal_values, F_optimal_values⟩ := d_optimal_values.ex
  have m_optimal_values := PySem.W.mg_of X G a_optimal_values
  have b_optimal_values : Binds K fd_optimal_values ["process", "table"] [] := F_optimal_values.binds fun _ _ _ _ _ _ us hl => match us, hl with | [_, _], _ => rfl
  have c_optimal_values : Cal P w K mg base 10 "optimal_values" (spD K C R_optv) := ⟨_, _, ["process", "table"], ok_optv F_optimal_values c_policy_values c_best_policy, m_optimal_values, F_optimal_values.kp, b_optimal_values⟩
  obtain ⟨fd_optimal_actions, F_optimal_actions⟩ := d_optimal_actions.ex
  have m_optimal_actions := PySem.W.mg_of X G a_optimal_actions
  have b_optimal_actions : Binds K fd_optimal_actions ["process", "table"] [] := F_optimal_actions.binds fun _ _ _ _ _ _ us hl => match us, hl with | [_, _], _ => rfl
  have c_optimal_actions : Cal P w K mg base 11 "optimal_actions" (spD K C R_opta) := ⟨_, _, ["process", "table"], ok_opta F_optimal_actions g1 c_optimal_values c_action_value c_is_greater, m_optimal_actions, F_optimal_actions.kp, b_optimal_actions⟩
  obtain ⟨fd_optimal_policy, F_optimal_policy⟩ := d_optimal_policy.ex
  have m_optimal_policy := PySem.W.mg_of X G a_optimal_policy
  have b_optimal_policy : Binds K fd_optimal_policy ["process", "table"] [] := F_optimal_policy.binds fun _ _ _ _ _ _ us hl => match us, hl with | [_, _], _ => rfl
  have c_optimal_policy : Cal P w K mg base 12 "optimal_policy" (spD K C R_optp) := ⟨_, _, ["process", "table"], ok_optp F_optimal_policy c_optimal_actions, m_optimal_policy, F_optimal_policy.kp, b_optimal_policy⟩
  obtain ⟨fd_value_fractions, F_value_fractions⟩ := d_value_fractions.ex
  have m_value_fractions := PySem.W.mg_of X G a_value_fractions
  have b_value_fractions : Binds K fd_value_fractions ["values"] [] := F_value_fractions.binds fun _ _ _ _ _ _ us hl => match us, hl with | [_], _ => rfl
  have c_value_fractions : Cal P w K mg base 3 "value_fractions" (spD K C R_vf) := ⟨_, _, ["values"], ok_vf F_value_fractions c_lowest, m_value_fractions, F_value_fractions.kp, b_value_fractions⟩
  obtain ⟨fd_regrets, F_regrets⟩ := d_regrets.ex
  have m_regrets := PySem.W.mg_of X G a_regrets
  have b_regrets : Binds K fd_regrets ["process"] [] := F_regrets.binds fun _ _ _ _ _ _ us hl => match us, hl with | [_], _ => rfl
  have c_regrets : Cal P w K mg base 13 "regrets" (spD K C R_regr) := ⟨_, _, ["process"], ok_regr F_regrets g1 c_optimal_values c_policy_values c_optimal_policy c_lowest, m_regrets, F_regrets.kp, b_regrets⟩
  obtain ⟨fd_next_state, F_next_state⟩ := d_next_state.ex
  have m_next_state := PySem.W.mg_of X G a_next_state
  have b_next_state : Binds K fd_next_state ["process", "state", "action", "random"] [] := F_next_state.binds fun _ _ _ _ _ _ us hl => match us, hl with | [_, _, _, _], _ => rfl
  have c_next_state : Cal P w K mg base 2 "next_state" (spD K C R_next) := ⟨_, _, ["process", "state", "action", "random"], ok_next F_next_state g1 n_sum i_CHANCES, m_next_state, F_next_state.kp, b_next_state⟩
  obtain ⟨fd_steps_from, F_steps_from⟩ := d_steps_from.ex
  have m_steps_from := PySem.W.mg_of X G a_steps_from
  have b_steps_from : Binds K fd_steps_from ["process", "table", "state", "randoms"] [] := F_steps_from.binds fun _ _ _ _ _ _ us hl => match us, hl with | [_, _, _, _], _ => rfl
  have c_steps_from : Cal P w K mg base 13 "steps_from" (spD K C R_steps) := ⟨_, _, ["process", "table", "state", "randoms"], ok_steps F_steps_from c_optimal_policy c_next_state, m_steps_from, F_steps_from.kp, b_steps_from⟩
  obtain ⟨fd_return_by, F_return_by⟩ := d_return_by.ex
  have m_return_by := PySem.W.mg_of X G a_return_by
  have b_return_by : Binds K fd_return_by ["process", "table", "steps"] [] := F_return_by.binds fun _ _ _ _ _ _ us hl => match us, hl with | [_, _, _], _ => rfl
  have c_return_by : Cal P w K mg base 3 "return_by" (spD K C R_ret) := ⟨_, _, ["process", "table", "steps"], ok_ret F_return_by g1 c_lowest, m_return_by, F_return_by.kp, b_return_by⟩
  obtain ⟨fd_episode_of, F_episode_of⟩ := d_episode_of.ex
  have m_episode_of := PySem.W.mg_of X G a_episode_of
  have b_episode_of : Binds K fd_episode_of ["process", "table", "state", "randoms"] [] := F_episode_of.binds fun _ _ _ _ _ _ us hl => match us, hl with | [_, _, _, _], _ => rfl
  have c_episode_of : Cal P w K mg base 14 "episode_of" (spD K C R_ep) := ⟨_, _, ["process", "table", "state", "randoms"], ok_ep F_episode_of c_steps_from c_return_by, m_episode_of, F_episode_of.kp, b_episode_of⟩
  obtain ⟨fd_episode_numbers, F_episode_numbers⟩ := d_episode_numbers.ex
  have m_episode_numbers := PySem.W.mg_of X G a_episode_numbers
  have b_episode_numbers : Binds K fd_episode_numbers ["episode"] [] := F_episode_numbers.binds fun _ _ _ _ _ _ us hl => match us, hl with | [_], _ => rfl
  have c_episode_numbers : Cal P w K mg base 2 "episode_numbers" (spD K C R_epn) := ⟨_, _, ["episode"], ok_epn F_episode_numbers c_numbers_of n_len, m_episode_numbers, F_episode_numbers.kp, b_episode_numbers⟩
  obtain ⟨fd_discount_over, F_discount_over⟩ := d_discount_over.ex
  have m_discount_over := PySem.W.mg_of X G a_discount_over
  have b_discount_over : Binds K fd_discount_over ["process", "many"] [] := F_discount_over.binds fun _ _ _ _ _ _ us hl => match us, hl with | [_, _], _ => rfl
  have c_discount_over : Cal P w K mg base 4 "discount_over" (spD K C R_disc) := ⟨_, _, ["process", "many"], ok_disc F_discount_over g1 c_times, m_discount_over, F_discount_over.kp, b_discount_over⟩
  obtain ⟨fd_corrected, F_corrected⟩ := d_corrected.ex
  have m_corrected := PySem.W.mg_of X G a_corrected
  have b_corrected : Binds K fd_corrected ["process", "episode"] [] := F_corrected.binds fun _ _ _ _ _ _ us hl => match us, hl with | [_, _], _ => rfl
  have c_corrected : Cal P w K mg base 5 "corrected" (spD K C R_corr) := ⟨_, _, ["process", "episode"], ok_corr F_corrected c_potentials_of c_discount_over c_times c_plus c_minus n_len, m_corrected, F_corrected.kp, b_corrected⟩
  obtain ⟨fd_is_guarantee, F_is_guarantee⟩ := d_is_guarantee.ex
  have m_is_guarantee := PySem.W.mg_of X G a_is_guarantee
  have b_is_guarantee : Binds K fd_is_guarantee ["kind", "value"] [] := F_is_guarantee.binds fun _ _ _ _ _ _ us hl => match us, hl with | [_, _], _ => rfl
  have c_is_guarantee : Cal P w K mg base 1 "is_guarantee" (spD K C R_isg) := ⟨_, _, ["kind", "value"], ok_isg F_is_guarantee i_LAST_KIND i_MOST_VALUE, m_is_guarantee, F_is_guarantee.kp, b_is_guarantee⟩
  obtain ⟨fd_have_same_actions, F_have_same_actions⟩ := d_have_same_actions.ex
  have m_have_same_actions := PySem.W.mg_of X G a_have_same_actions
  have b_have_same_actions : Binds K fd_have_same_actions ["process"] [] := F_have_same_actions.binds fun _ _ _ _ _ _ us hl => match us, hl with | [_], _ => rfl
  have c_have_same_actions : Cal P w K mg base 12 "have_same_actions" (spD K C R_same) := ⟨_, _, ["process"], ok_same F_have_same_actions c_optimal_actions, m_have_same_actions, F_have_same_actions.kp, b_have_same_actions⟩
  obtain ⟨fd_least_bound, F_least_bound⟩ := d_least_bound.ex
  have m_least_bound := PySem.W.mg_of X G a_least_bound
  have b_least_bound : Binds K fd_least_bound ["process"] [] := F_least_bound.binds fun _ _ _ _ _ _ us hl => match us, hl with | [_], _ => rfl
  have c_least_bound : Cal P w K mg base 14 "least_bound" (spD K C R_least) := ⟨_, _, ["process"], ok_least F_least_bound c_regrets c_rounded_up n_max, m_least_bound, F_least_bound.kp, b_least_bound⟩
  obtain ⟨fd_holds, F_holds⟩ := d_holds.ex
  have m_holds := PySem.W.mg_of X G a_holds
  have b_holds : Binds K fd_holds ["process", "guarantee"] [] := F_holds.binds fun _ _ _ _ _ _ us hl => match us, hl with | [_, _], _ => rfl
  have c_holds : Cal P w K mg base 15 "holds" (spD K C R_holds) := ⟨_, _, ["process", "guarantee"], ok_holds F_holds c_are_equivalent c_have_same_actions c_least_bound i_EQUIVALENT i_SAME_ACTIONS, m_holds, F_holds.kp, b_holds⟩
  obtain ⟨fd_all_hold, F_all_hold⟩ := d_all_hold.ex
  have m_all_hold := PySem.W.mg_of X G a_all_hold
  have b_all_hold : Binds K fd_all_hold ["process", "guarantees"] [] := F_all_hold.binds fun _ _ _ _ _ _ us hl => match us, hl with | [_, _], _ => rfl
  have c_all_hold : Cal P w K mg base 16 "all_hold" (spD K C R_all) := ⟨_, _, ["process", "guarantees"], ok_all F_all_hold c_holds, m_all_hold, F_all_hold.kp, b_all_hold⟩
  obtain ⟨fd_are_within, F_are_within⟩ := d_are_within.ex
  have m_are_within := PySem.W.mg_of X G a_are_within
  have b_are_within : Binds K fd_are_within ["numbers", "most"] [] := F_are_within.binds fun _ _ _ _ _ _ us hl => match us, hl with | [_, _], _ => rfl
  have c_are_within : Cal P w K mg base 1 "are_within" (spD K C R_within) := ⟨_, _, ["numbers", "most"], ok_within F_are_within n_all, m_are_within, F_are_within.kp, b_are_within⟩
  have nums : Nums mg := ⟨i_TABLES, i_MOST_REWARD, i_MOST_FACTOR, i_MOST_CHANGED, i_MOST_WEIGHT, i_MOST_STEPS, i_MOST_RANDOM, i_MOST_GUARANTEES, i_MOST_EPISODES, i_MISSING, i_PRESENT, i_OUTSIDE, i_FULL, i_VIOLATED, i_NOT_THERE, i_TOO_LARGE, n_len, n_int, n_sum, n_list, n_all, n_range⟩
  have gm : PGm P w K mg base C CM := { g := g1, T := mt, n := nums, equiv := c_are_equivalent, pots := c_potentials_of, factor := c_factor_of, same := c_have_same_actions, optv := c_optimal_values, vf := c_value_fractions, optp := c_optimal_policy, regr := c_regrets, nums := c_numbers_of, least := c_least_bound, holds := c_holds, allh := c_all_hold, isg := c_is_guarantee, ep := c_episode_of, epn := c_episode_numbers, corr := c_corrected, plus := c_plus, only := c_only_at, shaped := c_shaped, scaled := c_scaled, within := c_are_within, count := mp_reward_count, place := mp_place, wtab := mp_with_table, wwei := mp_with_weights }
  obtain ⟨fd_m_has_state, F_m_has_state⟩ := md_has_state.ex
  have mm_has_state : MetC P w K mg base 1 CM "has_state" (spQ K C CM RhasS) := ⟨_, _, ["self", "state"], ok_hasS F_m_has_state gm, ⟨ma_has_state, mi_has_state, F_m_has_state.kp⟩, F_m_has_state.binds fun _ _ _ _ _ _ us hl => match us, hl with | [_, _], _ => rfl⟩
  obtain ⟨fd_m_has_action, F_m_has_action⟩ := md_has_action.ex
  have mm_has_action : MetC P w K mg base 1 CM "has_action" (spQ K C CM RhasA) := ⟨_, _, ["self", "action"], ok_hasA F_m_has_action gm, ⟨ma_has_action, mi_has_action, F_m_has_action.kp⟩, F_m_has_action.binds fun _ _ _ _ _ _ us hl => match us, hl with | [_, _], _ => rfl⟩
  obtain ⟨fd_m_equivalent, F_m_equivalent⟩ := md_equivalent.ex
  have mm_equivalent : MetC P w K mg base 20 CM "equivalent" (spQ K C CM (RQ mk_equiv)) := ⟨_, _, ["self"], ok_qEquiv F_m_equivalent gm, ⟨ma_equivalent, mi_equivalent, F_m_equivalent.kp⟩, F_m_equivalent.binds fun _ _ _ _ _ _ us hl => match us, hl with | [_], _ => rfl⟩
  obtain ⟨fd_m_potentials, F_m_potentials⟩ := md_potentials.ex
  have mm_potentials : MetC P w K mg base 20 CM "potentials" (spQ K C CM (RQ mk_pots)) := ⟨_, _, ["self"], ok_qPots F_m_potentials gm, ⟨ma_potentials, mi_potentials, F_m_potentials.kp⟩, F_m_potentials.binds fun _ _ _ _ _ _ us hl => match us, hl with | [_], _ => rfl⟩
  obtain ⟨fd_m_equivalence_factor, F_m_equivalence_factor⟩ := md_equivalence_factor.ex
  have mm_equivalence_factor : MetC P w K mg base 20 CM "equivalence_factor" (spQ K C CM (RQ mk_factor)) := ⟨_, _, ["self"], ok_qFactor F_m_equivalence_factor gm, ⟨ma_equivalence_factor, mi_equivalence_factor, F_m_equivalence_factor.kp⟩, F_m_equivalence_factor.binds fun _ _ _ _ _ _ us hl => match us, hl with | [_], _ => rfl⟩
  obtain ⟨fd_m_same_optimal_actions, F_m_same_optimal_actions⟩ := md_same_optimal_actions.ex
  have mm_same_optimal_actions : MetC P w K mg base 20 CM "same_optimal_actions" (spQ K C CM (RQ mk_same)) := ⟨_, _, ["self"], ok_qSame F_m_same_optimal_actions gm, ⟨ma_same_optimal_actions, mi_same_optimal_actions, F_m_same_optimal_actions.kp⟩, F_m_same_optimal_actions.binds fun _ _ _ _ _ _ us hl => match us, hl with | [_], _ => rfl⟩
  obtain ⟨fd_m_best_values, F_m_best_values⟩ := md_best_values.ex
  have mm_best_values : MetC P w K mg base 20 CM "best_values" (spQ K C CM (RQ mk_best)) := ⟨_, _, ["self", "table"], ok_qBest F_m_best_values gm, ⟨ma_best_values, mi_best_values, F_m_best_values.kp⟩, F_m_best_values.binds fun _ _ _ _ _ _ us hl => match us, hl with | [_, _], _ => rfl⟩
  obtain ⟨fd_m_policy, F_m_policy⟩ := md_policy.ex
  have mm_policy : MetC P w K mg base 20 CM "policy" (spQ K C CM (RQ mk_policy)) := ⟨_, _, ["self", "table"], ok_qPolicy F_m_policy gm, ⟨ma_policy, mi_policy, F_m_policy.kp⟩, F_m_policy.binds fun _ _ _ _ _ _ us hl => match us, hl with | [_, _], _ => rfl⟩
  obtain ⟨fd_m_all_regrets, F_m_all_regrets⟩ := md_all_regrets.ex
  have mm_all_regrets : MetC P w K mg base 20 CM "all_regrets" (spQ K C CM (RQ mk_regr)) := ⟨_, _, ["self"], ok_qRegr F_m_all_regrets gm, ⟨ma_all_regrets, mi_all_regrets, F_m_all_regrets.kp⟩, F_m_all_regrets.binds fun _ _ _ _ _ _ us hl => match us, hl with | [_], _ => rfl⟩
  obtain ⟨fd_m_get_guarantee, F_m_get_guarantee⟩ := md_get_guarantee.ex
  have mm_get_guarantee : MetC P w K mg base 20 CM "get_guarantee" (spQ K C CM (RQ mk_getG)) := ⟨_, _, ["self", "number"], ok_qGetG F_m_get_guarantee gm, ⟨ma_get_guarantee, mi_get_guarantee, F_m_get_guarantee.kp⟩, F_m_get_guarantee.binds fun _ _ _ _ _ _ us hl => match us, hl with | [_, _], _ => rfl⟩
  obtain ⟨fd_m_check_guarantee, F_m_check_guarantee⟩ := md_check_guarantee.ex
  have mm_check_guarantee : MetC P w K mg base 20 CM "check_guarantee" (spQ K C CM (RQ mk_chkG)) := ⟨_, _, ["self", "kind", "value"], ok_qChkG F_m_check_guarantee gm, ⟨ma_check_guarantee, mi_check_guarantee, F_m_check_guarantee.kp⟩, F_m_check_guarantee.binds fun _ _ _ _ _ _ us hl => match us, hl with | [_, _, _], _ => rfl⟩
  obtain ⟨fd_m_least_regret_bound, F_m_least_regret_bound⟩ := md_least_regret_bound.ex
  have mm_least_regret_bound : MetC P w K mg base 20 CM "least_regret_bound" (spQ K C CM (RQ mk_least)) := ⟨_, _, ["self"], ok_qLeast F_m_least_regret_bound gm, ⟨ma_least_regret_bound, mi_least_regret_bound, F_m_least_regret_bound.kp⟩, F_m_least_regret_bound.binds fun _ _ _ _ _ _ us hl => match us, hl with | [_], _ => rfl⟩
  obtain ⟨fd_m_episode_error, F_m_episode_error⟩ := md_episode_error.ex
  have mm_episode_error : MetC P w K mg base 20 CM "episode_error" (spQ K C CM RErr) := ⟨_, _, ["self", "table", "state", "randoms"], ok_qErr F_m_episode_error gm mm_has_state, ⟨ma_episode_error, mi_episode_error, F_m_episode_error.kp⟩, F_m_episode_error.binds fun _ _ _ _ _ _ us hl => match us, hl with | [_, _, _, _], _ => rfl⟩
  obtain ⟨fd_m_preview_episode, F_m_preview_episode⟩ := md_preview_episode.ex
  have mm_preview_episode : MetC P w K mg base 22 CM "preview_episode" (spQ K C CM (RQ mk_prev)) := ⟨_, _, ["self", "table", "state", "randoms"], ok_qPrev F_m_preview_episode gm mm_episode_error, ⟨ma_preview_episode, mi_preview_episode, F_m_preview_episode.kp⟩, F_m_preview_episode.binds fun _ _ _ _ _ _ us hl => match us, hl with | [_, _, _, _], _ => rfl⟩
  obtain ⟨fd_m_get_episode, F_m_get_episode⟩ := md_get_episode.ex
  have mm_get_episode : MetC P w K mg base 20 CM "get_episode" (spQ K C CM (RQ mk_getE)) := ⟨_, _, ["self", "number"], ok_qGetE F_m_get_episode gm, ⟨ma_get_episode, mi_get_episode, F_m_get_episode.kp⟩, F_m_get_episode.binds fun _ _ _ _ _ _ us hl => match us, hl with | [_, _], _ => rfl⟩
  obtain ⟨fd_m_total_returns, F_m_total_returns⟩ := md_total_returns.ex
  have mm_total_returns : MetC P w K mg base 20 CM "total_returns" (spQ K C CM (RQ mk_total)) := ⟨_, _, ["self"], ok_qTotal F_m_total_returns gm gz, ⟨ma_total_returns, mi_total_returns, F_m_total_returns.kp⟩, F_m_total_returns.binds fun _ _ _ _ _ _ us hl => match us, hl with | [_], _ => rfl⟩
  obtain ⟨fd_m_corrected_return, F_m_corrected_return⟩ := md_corrected_return.ex
  have mm_corrected_return : MetC P w K mg base 20 CM "corrected_return" (spQ K C CM (RQ mk_corr)) := ⟨_, _, ["self", "number"], ok_qCorr F_m_corrected_return gm, ⟨ma_corrected_return, mi_corrected_return, F_m_corrected_return.kp⟩, F_m_corrected_return.binds fun _ _ _ _ _ _ us hl => match us, hl with | [_, _], _ => rfl⟩
  obtain ⟨fd_m_status, F_m_status⟩ := md_status.ex
  have mm_status : MetC P w K mg base 20 CM "status" (spQ K C CM (RQ mk_status)) := ⟨_, _, ["self"], ok_qStatus F_m_status gm, ⟨ma_status, mi_status, F_m_status.kp⟩, F_m_status.binds fun _ _ _ _ _ _ us hl => match us, hl with | [_], _ => rfl⟩
  obtain ⟨fd_m_changed, F_m_changed⟩ := md_changed.ex
  have mm_changed : MetC P w K mg base 20 CM "changed" (spM K C CM Rchg) := ⟨_, _, ["self", "process", "told"], ok_changed F_m_changed gm, ⟨ma_changed, mi_changed, F_m_changed.kp⟩, F_m_changed.binds fun _ _ _ _ _ _ us hl => match us, hl with | [_, _, _], _ => rfl⟩
  have gd : PGd P w K mg base C CM := ⟨gm, mm_changed, mm_has_state, mm_has_action⟩
  obtain ⟨fd_m_set_reward, F_m_set_reward⟩ := md_set_reward.ex
  have mm_set_reward : MetC P w K mg base 22 CM "set_reward" (spM K C CM (RD mk_setR)) := ⟨_, _, ["self", "table", "state", "action", "later", "value"], ok_setR F_m_set_reward gd, ⟨ma_set_reward, mi_set_reward, F_m_set_reward.kp⟩, F_m_set_reward.binds fun _ _ _ _ _ _ us hl => match us, hl with | [_, _, _, _, _, _], _ => rfl⟩
  obtain ⟨fd_m_set_rewards, F_m_set_rewards⟩ := md_set_rewards.ex
  have mm_set_rewards : MetC P w K mg base 22 CM "set_rewards" (spM K C CM (RD mk_setRs)) := ⟨_, _, ["self", "table", "values"], ok_setRs F_m_set_rewards gd, ⟨ma_set_rewards, mi_set_rewards, F_m_set_rewards.kp⟩, F_m_set_rewards.binds fun _ _ _ _ _ _ us hl => match us, hl with | [_, _, _], _ => rfl⟩
  obtain ⟨fd_m_copy_rewards, F_m_copy_rewards⟩ := md_copy_rewards.ex
  have mm_copy_rewards : MetC P w K mg base 22 CM "copy_rewards" (spM K C CM (RD mk_copy)) := ⟨_, _, ["self", "table"], ok_copy F_m_copy_rewards gd, ⟨ma_copy_rewards, mi_copy_rewards, F_m_copy_rewards.kp⟩, F_m_copy_rewards.binds fun _ _ _ _ _ _ us hl => match us, hl with | [_, _], _ => rfl⟩
  obtain ⟨fd_m_with_rewards, F_m_with_rewards⟩ := md_with_rewards.ex
  have mm_with_rewards : MetC P w K mg base 21 CM "with_rewards" (spM K C CM Rwr) := ⟨_, _, ["self", "table", "rewards"], ok_wr F_m_with_rewards gd, ⟨ma_with_rewards, mi_with_rewards, F_m_with_rewards.kp⟩, F_m_with_rewards.binds fun _ _ _ _ _ _ us hl => match us, hl with | [_, _, _], _ => rfl⟩
  obtain ⟨fd_m_shape_rewards, F_m_shape_rewards⟩ := md_shape_rewards.ex
  have mm_shape_rewards : MetC P w K mg base 22 CM "shape_rewards" (spM K C CM (RD mk_shape)) := ⟨_, _, ["self", "table", "potentials"], ok_shp F_m_shape_rewards gd mm_with_rewards, ⟨ma_shape_rewards, mi_shape_rewards, F_m_shape_rewards.kp⟩, F_m_shape_rewards.binds fun _ _ _ _ _ _ us hl => match us, hl with | [_, _, _], _ => rfl⟩
  obtain ⟨fd_m_scale_rewards, F_m_scale_rewards⟩ := md_scale_rewards.ex
  have mm_scale_rewards : MetC P w K mg base 22 CM "scale_rewards" (spM K C CM (RD mk_scale)) := ⟨_, _, ["self", "table", "factor"], ok_scl F_m_scale_rewards gd mm_with_rewards, ⟨ma_scale_rewards, mi_scale_rewards, F_m_scale_rewards.kp⟩, F_m_scale_rewards.binds fun _ _ _ _ _ _ us hl => match us, hl with | [_, _, _], _ => rfl⟩
  obtain ⟨fd_m_set_transition, F_m_set_transition⟩ := md_set_transition.ex
  have mm_set_transition : MetC P w K mg base 22 CM "set_transition" (spM K C CM (RD mk_setT)) := ⟨_, _, ["self", "state", "action", "weights"], ok_setT F_m_set_transition gd, ⟨ma_set_transition, mi_set_transition, F_m_set_transition.kp⟩, F_m_set_transition.binds fun _ _ _ _ _ _ us hl => match us, hl with | [_, _, _, _], _ => rfl⟩
  obtain ⟨fd_m_set_deterministic, F_m_set_deterministic⟩ := md_set_deterministic.ex
  have mm_set_deterministic : MetC P w K mg base 22 CM "set_deterministic" (spM K C CM (RD mk_setD)) := ⟨_, _, ["self", "states"], ok_setD F_m_set_deterministic gd, ⟨ma_set_deterministic, mi_set_deterministic, F_m_set_deterministic.kp⟩, F_m_set_deterministic.binds fun _ _ _ _ _ _ us hl => match us, hl with | [_, _], _ => rfl⟩
  obtain ⟨fd_m_add_guarantee, F_m_add_guarantee⟩ := md_add_guarantee.ex
  have mm_add_guarantee : MetC P w K mg base 22 CM "add_guarantee" (spM K C CM (RD mk_addG)) := ⟨_, _, ["self", "kind", "value"], ok_addG F_m_add_guarantee gd, ⟨ma_add_guarantee, mi_add_guarantee, F_m_add_guarantee.kp⟩, F_m_add_guarantee.binds fun _ _ _ _ _ _ us hl => match us, hl with | [_, _, _], _ => rfl⟩
  obtain ⟨fd_m_remove_guarantee, F_m_remove_guarantee⟩ := md_remove_guarantee.ex
  have mm_remove_guarantee : MetC P w K mg base 22 CM "remove_guarantee" (spM K C CM (RD mk_remG)) := ⟨_, _, ["self", "number"], ok_remG F_m_remove_guarantee gd, ⟨ma_remove_guarantee, mi_remove_guarantee, F_m_remove_guarantee.kp⟩, F_m_remove_guarantee.binds fun _ _ _ _ _ _ us hl => match us, hl with | [_, _], _ => rfl⟩
  obtain ⟨fd_m_run_episode, F_m_run_episode⟩ := md_run_episode.ex
  have mm_run_episode : MetC P w K mg base 22 CM "run_episode" (spM K C CM (RD mk_run)) := ⟨_, _, ["self", "table", "state", "randoms"], ok_run F_m_run_episode gd mm_episode_error, ⟨ma_run_episode, mi_run_episode, F_m_run_episode.kp⟩, F_m_run_episode.binds fun _ _ _ _ _ _ us hl => match us, hl with | [_, _, _, _], _ => rfl⟩
  obtain ⟨fd_m_init, F_m_init⟩ := md_init.ex
  have o_m_init := ok_MI (P := P) (w := w) (mg := mg) (base := base) (C := C) F_m_init mt
  obtain ⟨fd_is_process, F_is_process⟩ := d_is_process.ex
  have m_is_process := PySem.W.mg_of X G a_is_process
  have b_is_process : Binds K fd_is_process ["states", "actions", "top", "bottom"] [] := F_is_process.binds fun _ _ _ _ _ _ us hl => match us, hl with | [_, _, _, _], _ => rfl
  have c_is_process : Cal P w K mg base 1 "is_process" (spD K C R_isp) := ⟨_, _, ["states", "actions", "top", "bottom"], ok_isp F_is_process i_MOST_STATES i_MOST_ACTIONS i_MOST_BOTTOM, m_is_process, F_is_process.kp, b_is_process⟩
  have ga : PGa P w K mg base C CM := { T := mt, setR := mm_set_reward, setRs := mm_set_rewards, copy := mm_copy_rewards, shape := mm_shape_rewards, scale := mm_scale_rewards, setT := mm_set_transition, setD := mm_set_deterministic, equiv := mm_equivalent, pots := mm_potentials, factor := mm_equivalence_factor, same := mm_same_optimal_actions, best := mm_best_values, policy := mm_policy, regr := mm_all_regrets, addG := mm_add_guarantee, remG := mm_remove_guarantee, getG := mm_get_guarantee, chkG := mm_check_guarantee, least := mm_least_regret_bound, run := mm_run_episode, prev := mm_preview_episode, getE := mm_get_episode, total := mm_total_returns, corr := mm_corrected_return, status := mm_status }
  obtain ⟨fd_change_answer, F_change_answer⟩ := d_change_answer.ex
  have m_change_answer := PySem.W.mg_of X G a_change_answer
  have b_change_answer : Binds K fd_change_answer ["monitor", "word", "n"] [] := F_change_answer.binds fun _ _ _ _ _ _ us hl => match us, hl with | [_, _, _], _ => rfl
  have c_change_answer : Cal P w K mg base 23 "change_answer" (spM K C CM (RPart 1 7 Ask1)) := ⟨_, _, ["monitor", "word", "n"], ok_ChA F_change_answer ga, m_change_answer, F_change_answer.kp, b_change_answer⟩
  obtain ⟨fd_table_answer, F_table_answer⟩ := d_table_answer.ex
  have m_table_answer := PySem.W.mg_of X G a_table_answer
  have b_table_answer : Binds K fd_table_answer ["monitor", "word", "n"] [] := F_table_answer.binds fun _ _ _ _ _ _ us hl => match us, hl with | [_, _, _], _ => rfl
  have c_table_answer : Cal P w K mg base 23 "table_answer" (spM K C CM (RPart 8 14 Ask2)) := ⟨_, _, ["monitor", "word", "n"], ok_TaA F_table_answer ga, m_table_answer, F_table_answer.kp, b_table_answer⟩
  obtain ⟨fd_guarantee_answer, F_guarantee_answer⟩ := d_guarantee_answer.ex
  have m_guarantee_answer := PySem.W.mg_of X G a_guarantee_answer
  have b_guarantee_answer : Binds K fd_guarantee_answer ["monitor", "word", "n"] [] := F_guarantee_answer.binds fun _ _ _ _ _ _ us hl => match us, hl with | [_, _, _], _ => rfl
  have c_guarantee_answer : Cal P w K mg base 23 "guarantee_answer" (spM K C CM (RPart 15 19 Ask3)) := ⟨_, _, ["monitor", "word", "n"], ok_GuA F_guarantee_answer ga, m_guarantee_answer, F_guarantee_answer.kp, b_guarantee_answer⟩
  obtain ⟨fd_episode_answer, F_episode_answer⟩ := d_episode_answer.ex
  have m_episode_answer := PySem.W.mg_of X G a_episode_answer
  have b_episode_answer : Binds K fd_episode_answer ["monitor", "word", "n"] [] := F_episode_answer.binds fun _ _ _ _ _ _ us hl => match us, hl with | [_, _, _], _ => rfl
  have c_episode_answer : Cal P w K mg base 23 "episode_answer" (spM K C CM REp) := ⟨_, _, ["monitor", "word", "n"], ok_EpA F_episode_answer ga, m_episode_answer, F_episode_answer.kp, b_episode_answer⟩
  obtain ⟨fd_answer, F_answer⟩ := d_answer.ex
  have m_answer := PySem.W.mg_of X G a_answer
  have b_answer : Binds K fd_answer ["monitor", "word", "n"] [] := F_answer.binds fun _ _ _ _ _ _ us hl => match us, hl with | [_, _, _], _ => rfl
  have c_answer : Cal P w K mg base 24 "answer" (spM K C CM RAns) := ⟨_, _, ["monitor", "word", "n"], ok_Ans F_answer c_change_answer c_table_answer c_guarantee_answer c_episode_answer, m_answer, F_answer.kp, b_answer⟩
  have mkm : MkM P w K mg base 1 C CM := ⟨_, _, _, ⟨mmk, ma_init, mi_init, mkc⟩, o_m_init, m_Monitor, F_m_init.binds fun _ _ _ _ _ _ us hl => match us, hl with | [_, _], _ => rfl⟩
  have gl : PGl P w K mg base C CM := { T := mt, PT := pt, isp := c_is_process, newp := c_new_process, make := mkm, count := mp_reward_count, ans := c_answer, nCreate := i_CREATE, nNo := i_NO_MONITOR, nOut := i_OUTSIDE, nLen := n_len }
  have o_answers := ok_answers F_answers gl
  exact o_answers.imp fin_imp
end Sw
open PySem PySem.W PyProof.Rows
set_option maxRecDepth 100000 in
set_option maxHeartbeats 0 in
theorem PySem.Challenge.cw_shapewatch_s01_answers_holds : PySem.Challenge.rw_shapewatch_s01_answers.Holds := by
  w_on; k_headS; (case hw => exact ⟨[.list [.int 25, .int 0, .int 0]], by decide +kernel, by decide +kernel⟩)
  k_fillS
  refine L2.walk_specK (r := PySem.Challenge.rw_shapewatch_s01_answers) (k := 25) (CX := L2.CX0) (ps := ["calls"]) (sp := Sw.spFin) (by decide +kernel) rfl rfl ⟨rfl, by decide, by decide⟩ (fun w h Y => PySem.W.kIn_of Y) ?F ?S (fun _ _ _ _ z => z)
  case F =>
    intro w mg fa h Y KX G hmg
    refine' Sw.all_mk KX G hmg ?a_common ?d_common ?a_lowest ?d_lowest ?a_plus ?d_plus ?a_minus ?d_minus ?a_times ?d_times ?a_rounded_up ?d_rounded_up ?a_numbers_of ?d_numbers_of ?a_only_at ?d_only_at ?a_new_process ?d_new_process ?a_shaped ?d_shaped ?a_scaled ?d_scaled ?a_reduced ?d_reduced ?a_are_equivalent ?d_are_equivalent ?a_potentials_of ?d_potentials_of ?a_first_place ?d_first_place ?a_factor_of ?d_factor_of ?a_equation ?d_equation ?a_right_side ?d_right_side ?a_without ?d_without ?a_determinant ?d_determinant ?a_with_column ?d_with_column ?a_policy_values ?d_policy_values ?a_action_value ?d_action_value ?a_is_greater ?d_is_greater ?a_better_action ?d_better_action ?a_improved ?d_improved ?a_best_policy ?d_best_policy ?a_optimal_values ?d_optimal_values ?a_optimal_actions ?d_optimal_actions ?a_optimal_policy ?d_optimal_policy ?a_value_fractions ?d_value_fractions ?a_regrets ?d_regrets ?a_next_state ?d_next_state ?a_steps_from ?d_steps_from ?a_return_by ?d_return_by ?a_episode_of ?d_episode_of ?a_episode_numbers ?d_episode_numbers ?a_discount_over ?d_discount_over ?a_corrected ?d_corrected ?a_is_guarantee ?d_is_guarantee ?a_have_same_actions ?d_have_same_actions ?a_least_bound ?d_least_bound ?a_holds ?d_holds ?a_all_hold ?d_all_hold ?a_are_within ?d_are_within ?a_is_process ?d_is_process ?a_change_answer ?d_change_answer ?a_table_answer ?d_table_answer ?a_guarantee_answer ?d_guarantee_answer ?a_episode_answer ?d_episode_answer ?a_answer ?d_answer ?a_answers ?d_answers ?pcls ?mcls ?ppg ?phd ?ppo ?psa ?pmk ?pkc ?mpg ?mhd ?mpo ?msa ?mmk ?mkc ?pn_states ?pn_actions ?pn_top ?pn_bottom ?pn_tables ?pn_weights ?mn_process ?mn_guarantees ?mn_episodes ?pa_init ?pi_init ?pd_init ?pa_reward_count ?pi_reward_count ?pd_reward_count ?pa_place ?pi_place ?pd_place ?pa_reward ?pi_reward ?pd_reward ?pa_weights_of ?pi_weights_of ?pd_weights_of ?pa_keys ?pi_keys ?pd_keys ?pa_with_table ?pi_with_table ?pd_with_table ?pa_with_weights ?pi_with_weights ?pd_with_weights ?ma_has_state ?mi_has_state ?md_has_state ?ma_has_action ?mi_has_action ?md_has_action ?ma_equivalent ?mi_equivalent ?md_equivalent ?ma_potentials ?mi_potentials ?md_potentials ?ma_equivalence_factor ?mi_equivalence_factor ?md_equivalence_factor ?ma_same_optimal_actions ?mi_same_optimal_actions ?md_same_optimal_actions ?ma_best_values ?mi_best_values ?md_best_values ?ma_policy ?mi_policy ?md_policy ?ma_all_regrets ?mi_all_regrets ?md_all_regrets ?ma_get_guarantee ?mi_get_guarantee ?md_get_guarantee ?ma_check_guarantee ?mi_check_guarantee ?md_check_guarantee ?ma_least_regret_bound ?mi_least_regret_bound ?md_least_regret_bound ?ma_episode_error ?mi_episode_error ?md_episode_error ?ma_preview_episode ?mi_preview_episode ?md_preview_episode ?ma_get_episode ?mi_get_episode ?md_get_episode ?ma_total_returns ?mi_total_returns ?md_total_returns ?ma_corrected_return ?mi_corrected_return ?md_corrected_return ?ma_status ?mi_status ?md_status ?ma_changed ?mi_changed ?md_changed ?ma_set_reward ?mi_set_reward ?md_set_reward ?ma_set_rewards ?mi_set_rewards ?md_set_rewards ?ma_copy_rewards ?mi_copy_rewards ?md_copy_rewards ?ma_with_rewards ?mi_with_rewards ?md_with_rewards ?ma_shape_rewards ?mi_shape_rewards ?md_shape_rewards ?ma_scale_rewards ?mi_scale_rewards ?md_scale_rewards ?ma_set_transition ?mi_set_transition ?md_set_transition ?ma_set_deterministic ?mi_set_deterministic ?md_set_deterministic ?ma_add_guarantee ?mi_add_guarantee ?md_add_guarantee ?ma_remove_guarantee ?mi_remove_guarantee ?md_remove_guarantee ?ma_run_episode ?mi_run_episode ?md_run_episode ?ma_init ?mi_init ?md_init ?j_CHANCES ?j_CREATE ?j_EQUIVALENT ?j_FULL ?j_LAST_KIND ?j_MISSING ?j_MOST_ACTIONS ?j_MOST_BOTTOM ?j_MOST_CHANGED ?j_MOST_EPISODES ?j_MOST_FACTOR ?j_MOST_GUARANTEES ?j_MOST_RANDOM ?j_MOST_REWARD ?j_MOST_STATES ?j_MOST_STEPS ?j_MOST_VALUE ?j_MOST_WEIGHT ?j_NOT_THERE ?j_NO_MONITOR ?j_OUTSIDE ?j_PRESENT ?j_SAME_ACTIONS ?j_TABLES ?j_TOO_LARGE ?j_VIOLATED ?e_abs ?e_all ?e_int ?e_len ?e_list ?e_max ?e_range ?e_sum ?e_zip ?za ?zl
    (case a_common => k_is)
    (case d_common => refine' Sw.defk ?l ?c ?k; (case l => k_is); (case c => k_is); (case k => k_is))
    (case a_lowest => k_is)
    (case d_lowest => refine' Sw.defk ?l ?c ?k; (case l => k_is); (case c => k_is); (case k => k_is))
    (case a_plus => k_is)
    (case d_plus => refine' Sw.defk ?l ?c ?k; (case l => k_is); (case c => k_is); (case k => k_is))
    (case a_minus => k_is)
    (case d_minus => refine' Sw.defk ?l ?c ?k; (case l => k_is); (case c => k_is); (case k => k_is))
    (case a_times => k_is)
    (case d_times => refine' Sw.defk ?l ?c ?k; (case l => k_is); (case c => k_is); (case k => k_is))
    (case a_rounded_up => k_is)
    (case d_rounded_up => refine' Sw.defk ?l ?c ?k; (case l => k_is); (case c => k_is); (case k => k_is))
    (case a_numbers_of => k_is)
    (case d_numbers_of => refine' Sw.defk ?l ?c ?k; (case l => k_is); (case c => k_is); (case k => k_is))
    (case a_only_at => k_is)
    (case d_only_at => refine' Sw.defk ?l ?c ?k; (case l => k_is); (case c => k_is); (case k => k_is))
    (case a_new_process => k_is)
    (case d_new_process => refine' Sw.defk ?l ?c ?k; (case l => k_is); (case c => k_is); (case k => k_is))
    (case a_shaped => k_is)
    (case d_shaped => refine' Sw.defk ?l ?c ?k; (case l => k_is); (case c => k_is); (case k => k_is))
    (case a_scaled => k_is)
    (case d_scaled => refine' Sw.defk ?l ?c ?k; (case l => k_is); (case c => k_is); (case k => k_is))
    (case a_reduced => k_is)
    (case d_reduced => refine' Sw.defk ?l ?c ?k; (case l => k_is); (case c => k_is); (case k => k_is))
    (case a_are_equivalent => k_is)
    (case d_are_equivalent => refine' Sw.defk ?l ?c ?k; (case l => k_is); (case c => k_is); (case k => k_is))
    (case a_potentials_of => k_is)
    (case d_potentials_of => refine' Sw.defk ?l ?c ?k; (case l => k_is); (case c => k_is); (case k => k_is))
    (case a_first_place => k_is)
    (case d_first_place => refine' Sw.defk ?l ?c ?k; (case l => k_is); (case c => k_is); (case k => k_is))
    (case a_factor_of => k_is)
    (case d_factor_of => refine' Sw.defk ?l ?c ?k; (case l => k_is); (case c => k_is); (case k => k_is))
    (case a_equation => k_is)
    (case d_equation => refine' Sw.defk ?l ?c ?k; (case l => k_is); (case c => k_is); (case k => k_is))
    (case a_right_side => k_is)
    (case d_right_side => refine' Sw.defk ?l ?c ?k; (case l => k_is); (case c => k_is); (case k => k_is))
    (case a_without => k_is)
    (case d_without => refine' Sw.defk ?l ?c ?k; (case l => k_is); (case c => k_is); (case k => k_is))
    (case a_determinant => k_is)
    (case d_determinant => refine' Sw.defk ?l ?c ?k; (case l => k_is); (case c => k_is); (case k => k_is))
    (case a_with_column => k_is)
    (case d_with_column => refine' Sw.defk ?l ?c ?k; (case l => k_is); (case c => k_is); (case k => k_is))
    (case a_policy_values => k_is)
    (case d_policy_values => refine' Sw.defk ?l ?c ?k; (case l => k_is); (case c => k_is); (case k => k_is))
    (case a_action_value => k_is)
    (case d_action_value => refine' Sw.defk ?l ?c ?k; (case l => k_is); (case c => k_is); (case k => k_is))
    (case a_is_greater => k_is)
    (case d_is_greater => refine' Sw.defk ?l ?c ?k; (case l => k_is); (case c => k_is); (case k => k_is))
    (case a_better_action => k_is)
    (case d_better_action => refine' Sw.defk ?l ?c ?k; (case l => k_is); (case c => k_is); (case k => k_is))
    (case a_improved => k_is)
    (case d_improved => refine' Sw.defk ?l ?c ?k; (case l => k_is); (case c => k_is); (case k => k_is))
    (case a_best_policy => k_is)
    (case d_best_policy => refine' Sw.defk ?l ?c ?k; (case l => k_is); (case c => k_is); (case k => k_is))
    (case a_optimal_values => k_is)
    (case d_optimal_values => refine' Sw.defk ?l ?c ?k; (case l => k_is); (case c => k_is); (case k => k_is))
    (case a_optimal_actions => k_is)
    (case d_optimal_actions => refine' Sw.defk ?l ?c ?k; (case l => k_is); (case c => k_is); (case k => k_is))
    (case a_optimal_policy => k_is)
    (case d_optimal_policy => refine' Sw.defk ?l ?c ?k; (case l => k_is); (case c => k_is); (case k => k_is))
    (case a_value_fractions => k_is)
    (case d_value_fractions => refine' Sw.defk ?l ?c ?k; (case l => k_is); (case c => k_is); (case k => k_is))
    (case a_regrets => k_is)
    (case d_regrets => refine' Sw.defk ?l ?c ?k; (case l => k_is); (case c => k_is); (case k => k_is))
    (case a_next_state => k_is)
    (case d_next_state => refine' Sw.defk ?l ?c ?k; (case l => k_is); (case c => k_is); (case k => k_is))
    (case a_steps_from => k_is)
    (case d_steps_from => refine' Sw.defk ?l ?c ?k; (case l => k_is); (case c => k_is); (case k => k_is))
    (case a_return_by => k_is)
    (case d_return_by => refine' Sw.defk ?l ?c ?k; (case l => k_is); (case c => k_is); (case k => k_is))
    (case a_episode_of => k_is)
    (case d_episode_of => refine' Sw.defk ?l ?c ?k; (case l => k_is); (case c => k_is); (case k => k_is))
    (case a_episode_numbers => k_is)
    (case d_episode_numbers => refine' Sw.defk ?l ?c ?k; (case l => k_is); (case c => k_is); (case k => k_is))
    (case a_discount_over => k_is)
    (case d_discount_over => refine' Sw.defk ?l ?c ?k; (case l => k_is); (case c => k_is); (case k => k_is))
    (case a_corrected => k_is)
    (case d_corrected => refine' Sw.defk ?l ?c ?k; (case l => k_is); (case c => k_is); (case k => k_is))
    (case a_is_guarantee => k_is)
    (case d_is_guarantee => refine' Sw.defk ?l ?c ?k; (case l => k_is); (case c => k_is); (case k => k_is))
    (case a_have_same_actions => k_is)
    (case d_have_same_actions => refine' Sw.defk ?l ?c ?k; (case l => k_is); (case c => k_is); (case k => k_is))
    (case a_least_bound => k_is)
    (case d_least_bound => refine' Sw.defk ?l ?c ?k; (case l => k_is); (case c => k_is); (case k => k_is))
    (case a_holds => k_is)
    (case d_holds => refine' Sw.defk ?l ?c ?k; (case l => k_is); (case c => k_is); (case k => k_is))
    (case a_all_hold => k_is)
    (case d_all_hold => refine' Sw.defk ?l ?c ?k; (case l => k_is); (case c => k_is); (case k => k_is))
    (case a_are_within => k_is)
    (case d_are_within => refine' Sw.defk ?l ?c ?k; (case l => k_is); (case c => k_is); (case k => k_is))
    (case a_is_process => k_is)
    (case d_is_process => refine' Sw.defk ?l ?c ?k; (case l => k_is); (case c => k_is); (case k => k_is))
    (case a_change_answer => k_is)
    (case d_change_answer => refine' Sw.defk ?l ?c ?k; (case l => k_is); (case c => k_is); (case k => k_is))
    (case a_table_answer => k_is)
    (case d_table_answer => refine' Sw.defk ?l ?c ?k; (case l => k_is); (case c => k_is); (case k => k_is))
    (case a_guarantee_answer => k_is)
    (case d_guarantee_answer => refine' Sw.defk ?l ?c ?k; (case l => k_is); (case c => k_is); (case k => k_is))
    (case a_episode_answer => k_is)
    (case d_episode_answer => refine' Sw.defk ?l ?c ?k; (case l => k_is); (case c => k_is); (case k => k_is))
    (case a_answer => k_is)
    (case d_answer => refine' Sw.defk ?l ?c ?k; (case l => k_is); (case c => k_is); (case k => k_is))
    (case a_answers => k_is)
    (case d_answers => refine' Sw.defk ?l ?c ?k; (case l => k_is); (case c => k_is); (case k => k_is))
    (case pcls => k_is)
    (case mcls => k_is)
    (case ppg => k_is)
    (case phd => k_is)
    (case ppo => k_is)
    (case psa => k_is)
    (case pmk => k_is)
    (case pkc => k_is)
    (case mpg => k_is)
    (case mhd => k_is)
    (case mpo => k_is)
    (case msa => k_is)
    (case mmk => k_is)
    (case mkc => k_is)
    (case pn_states => k_is)
    (case pn_actions => k_is)
    (case pn_top => k_is)
    (case pn_bottom => k_is)
    (case pn_tables => k_is)
    (case pn_weights => k_is)
    (case mn_process => k_is)
    (case mn_guarantees => k_is)
    (case mn_episodes => k_is)
    (case pa_init => k_is)
    (case pi_init => k_is)
    (case pd_init => refine' Sw.defk ?l ?c ?k; (case l => k_is); (case c => k_is); (case k => k_is))
    (case pa_reward_count => k_is)
    (case pi_reward_count => k_is)
    (case pd_reward_count => refine' Sw.defk ?l ?c ?k; (case l => k_is); (case c => k_is); (case k => k_is))
    (case pa_place => k_is)
    (case pi_place => k_is)
    (case pd_place => refine' Sw.defk ?l ?c ?k; (case l => k_is); (case c => k_is); (case k => k_is))
    (case pa_reward => k_is)
    (case pi_reward => k_is)
    (case pd_reward => refine' Sw.defk ?l ?c ?k; (case l => k_is); (case c => k_is); (case k => k_is))
    (case pa_weights_of => k_is)
    (case pi_weights_of => k_is)
    (case pd_weights_of => refine' Sw.defk ?l ?c ?k; (case l => k_is); (case c => k_is); (case k => k_is))
    (case pa_keys => k_is)
    (case pi_keys => k_is)
    (case pd_keys => refine' Sw.defk ?l ?c ?k; (case l => k_is); (case c => k_is); (case k => k_is))
    (case pa_with_table => k_is)
    (case pi_with_table => k_is)
    (case pd_with_table => refine' Sw.defk ?l ?c ?k; (case l => k_is); (case c => k_is); (case k => k_is))
    (case pa_with_weights => k_is)
    (case pi_with_weights => k_is)
    (case pd_with_weights => refine' Sw.defk ?l ?c ?k; (case l => k_is); (case c => k_is); (case k => k_is))
    (case ma_has_state => k_is)
    (case mi_has_state => k_is)
    (case md_has_state => refine' Sw.defk ?l ?c ?k; (case l => k_is); (case c => k_is); (case k => k_is))
    (case ma_has_action => k_is)
    (case mi_has_action => k_is)
    (case md_has_action => refine' Sw.defk ?l ?c ?k; (case l => k_is); (case c => k_is); (case k => k_is))
    (case ma_equivalent => k_is)
    (case mi_equivalent => k_is)
    (case md_equivalent => refine' Sw.defk ?l ?c ?k; (case l => k_is); (case c => k_is); (case k => k_is))
    (case ma_potentials => k_is)
    (case mi_potentials => k_is)
    (case md_potentials => refine' Sw.defk ?l ?c ?k; (case l => k_is); (case c => k_is); (case k => k_is))
    (case ma_equivalence_factor => k_is)
    (case mi_equivalence_factor => k_is)
    (case md_equivalence_factor => refine' Sw.defk ?l ?c ?k; (case l => k_is); (case c => k_is); (case k => k_is))
    (case ma_same_optimal_actions => k_is)
    (case mi_same_optimal_actions => k_is)
    (case md_same_optimal_actions => refine' Sw.defk ?l ?c ?k; (case l => k_is); (case c => k_is); (case k => k_is))
    (case ma_best_values => k_is)
    (case mi_best_values => k_is)
    (case md_best_values => refine' Sw.defk ?l ?c ?k; (case l => k_is); (case c => k_is); (case k => k_is))
    (case ma_policy => k_is)
    (case mi_policy => k_is)
    (case md_policy => refine' Sw.defk ?l ?c ?k; (case l => k_is); (case c => k_is); (case k => k_is))
    (case ma_all_regrets => k_is)
    (case mi_all_regrets => k_is)
    (case md_all_regrets => refine' Sw.defk ?l ?c ?k; (case l => k_is); (case c => k_is); (case k => k_is))
    (case ma_get_guarantee => k_is)
    (case mi_get_guarantee => k_is)
    (case md_get_guarantee => refine' Sw.defk ?l ?c ?k; (case l => k_is); (case c => k_is); (case k => k_is))
    (case ma_check_guarantee => k_is)
    (case mi_check_guarantee => k_is)
    (case md_check_guarantee => refine' Sw.defk ?l ?c ?k; (case l => k_is); (case c => k_is); (case k => k_is))
    (case ma_least_regret_bound => k_is)
    (case mi_least_regret_bound => k_is)
    (case md_least_regret_bound => refine' Sw.defk ?l ?c ?k; (case l => k_is); (case c => k_is); (case k => k_is))
    (case ma_episode_error => k_is)
    (case mi_episode_error => k_is)
    (case md_episode_error => refine' Sw.defk ?l ?c ?k; (case l => k_is); (case c => k_is); (case k => k_is))
    (case ma_preview_episode => k_is)
    (case mi_preview_episode => k_is)
    (case md_preview_episode => refine' Sw.defk ?l ?c ?k; (case l => k_is); (case c => k_is); (case k => k_is))
    (case ma_get_episode => k_is)
    (case mi_get_episode => k_is)
    (case md_get_episode => refine' Sw.defk ?l ?c ?k; (case l => k_is); (case c => k_is); (case k => k_is))
    (case ma_total_returns => k_is)
    (case mi_total_returns => k_is)
    (case md_total_returns => refine' Sw.defk ?l ?c ?k; (case l => k_is); (case c => k_is); (case k => k_is))
    (case ma_corrected_return => k_is)
    (case mi_corrected_return => k_is)
    (case md_corrected_return => refine' Sw.defk ?l ?c ?k; (case l => k_is); (case c => k_is); (case k => k_is))
    (case ma_status => k_is)
    (case mi_status => k_is)
    (case md_status => refine' Sw.defk ?l ?c ?k; (case l => k_is); (case c => k_is); (case k => k_is))
    (case ma_changed => k_is)
    (case mi_changed => k_is)
    (case md_changed => refine' Sw.defk ?l ?c ?k; (case l => k_is); (case c => k_is); (case k => k_is))
    (case ma_set_reward => k_is)
    (case mi_set_reward => k_is)
    (case md_set_reward => refine' Sw.defk ?l ?c ?k; (case l => k_is); (case c => k_is); (case k => k_is))
    (case ma_set_rewards => k_is)
    (case mi_set_rewards => k_is)
    (case md_set_rewards => refine' Sw.defk ?l ?c ?k; (case l => k_is); (case c => k_is); (case k => k_is))
    (case ma_copy_rewards => k_is)
    (case mi_copy_rewards => k_is)
    (case md_copy_rewards => refine' Sw.defk ?l ?c ?k; (case l => k_is); (case c => k_is); (case k => k_is))
    (case ma_with_rewards => k_is)
    (case mi_with_rewards => k_is)
    (case md_with_rewards => refine' Sw.defk ?l ?c ?k; (case l => k_is); (case c => k_is); (case k => k_is))
    (case ma_shape_rewards => k_is)
    (case mi_shape_rewards => k_is)
    (case md_shape_rewards => refine' Sw.defk ?l ?c ?k; (case l => k_is); (case c => k_is); (case k => k_is))
    (case ma_scale_rewards => k_is)
    (case mi_scale_rewards => k_is)
    (case md_scale_rewards => refine' Sw.defk ?l ?c ?k; (case l => k_is); (case c => k_is); (case k => k_is))
    (case ma_set_transition => k_is)
    (case mi_set_transition => k_is)
    (case md_set_transition => refine' Sw.defk ?l ?c ?k; (case l => k_is); (case c => k_is); (case k => k_is))
    (case ma_set_deterministic => k_is)
    (case mi_set_deterministic => k_is)
    (case md_set_deterministic => refine' Sw.defk ?l ?c ?k; (case l => k_is); (case c => k_is); (case k => k_is))
    (case ma_add_guarantee => k_is)
    (case mi_add_guarantee => k_is)
    (case md_add_guarantee => refine' Sw.defk ?l ?c ?k; (case l => k_is); (case c => k_is); (case k => k_is))
    (case ma_remove_guarantee => k_is)
    (case mi_remove_guarantee => k_is)
    (case md_remove_guarantee => refine' Sw.defk ?l ?c ?k; (case l => k_is); (case c => k_is); (case k => k_is))
    (case ma_run_episode => k_is)
    (case mi_run_episode => k_is)
    (case md_run_episode => refine' Sw.defk ?l ?c ?k; (case l => k_is); (case c => k_is); (case k => k_is))
    (case ma_init => k_is)
    (case mi_init => k_is)
    (case md_init => refine' Sw.defk ?l ?c ?k; (case l => k_is); (case c => k_is); (case k => k_is))
    (case j_CHANCES => k_is)
    (case j_CREATE => k_is)
    (case j_EQUIVALENT => k_is)
    (case j_FULL => k_is)
    (case j_LAST_KIND => k_is)
    (case j_MISSING => k_is)
    (case j_MOST_ACTIONS => k_is)
    (case j_MOST_BOTTOM => k_is)
    (case j_MOST_CHANGED => k_is)
    (case j_MOST_EPISODES => k_is)
    (case j_MOST_FACTOR => k_is)
    (case j_MOST_GUARANTEES => k_is)
    (case j_MOST_RANDOM => k_is)
    (case j_MOST_REWARD => k_is)
    (case j_MOST_STATES => k_is)
    (case j_MOST_STEPS => k_is)
    (case j_MOST_VALUE => k_is)
    (case j_MOST_WEIGHT => k_is)
    (case j_NOT_THERE => k_is)
    (case j_NO_MONITOR => k_is)
    (case j_OUTSIDE => k_is)
    (case j_PRESENT => k_is)
    (case j_SAME_ACTIONS => k_is)
    (case j_TABLES => k_is)
    (case j_TOO_LARGE => k_is)
    (case j_VIOLATED => k_is)
    (case e_abs => k_is)
    (case e_all => k_is)
    (case e_int => k_is)
    (case e_len => k_is)
    (case e_list => k_is)
    (case e_max => k_is)
    (case e_range => k_is)
    (case e_sum => k_is)
    (case e_zip => k_is)
    (case za => k_is)
    (case zl => k_is)
  case S =>
    intro K H xs a hO hwi hask hx
    cases hx with
    | cons h1 h2 =>
      cases h2
      cases h1 with
      | lst hs ha =>
        have e := L2.ints_dw a.1 _ ha
        subst e
        exact ⟨_, a.1, rfl, hs, hask, fun p H' hp => .lst (L2.SqL.of hp) (L2.dw_ints _)⟩
