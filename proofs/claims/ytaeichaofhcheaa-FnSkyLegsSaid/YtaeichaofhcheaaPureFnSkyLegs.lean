/-
  The law FnSkyLegs over numbers and lists: what is drawn is drawn, both tell the same cells, and the cells from one cell to another are as the law says.
-/
import Derived.Test.YtaeichaofhcheaaStdFnSkyLegs
namespace Go.Proofs.Ytaeichaofhcheaa.Pure
open Go.RowKit Go.Proofs.Ytaeichaofhcheaa.QFnSkyLegs Go.Proofs.YtaeichaofhcheaaW.PrintWords Go.Proofs.Ytaeichaofhcheaa.Kit Go.Proofs.Ytaeichaofhcheaa.StdFnSkyLegs
set_option linter.unusedSimpArgs false
set_option linter.unusedVariables false
/-- A row told place by place. -/
def tab {α : Type} (n : Nat) (g : Nat → α) : List α := (List.range n).map g
theorem tab_length {α : Type} (n : Nat) (g : Nat → α) : (tab n g).length = n := by simp [tab]
theorem tab_get {α : Type} (n : Nat) (g : Nat → α) (i : Nat) (hi : i < n) : (tab n g)[i]? = some (g i) := by simp [tab, hi]
theorem tab_congr {α : Type} (n : Nat) (g g' : Nat → α) (hg : ∀ j, j < n → g j = g' j) : tab n g = tab n g' := by
  apply List.ext_getElem?
  intro j
  rcases Nat.lt_or_ge j n with hj | hj
  · rw [tab_get n g j hj, tab_get n g' j hj, hg j hj]
  · rw [List.getElem?_eq_none (by rw [tab_length]; omega), List.getElem?_eq_none (by rw [tab_length]; omega)]
theorem tab_set {α : Type} (n : Nat) (g : Nat → α) (i : Nat) (v : α) (hi : i < n) : (tab n g).set i v = tab n (fun j => if j = i then v else g j) := by
  apply List.ext_getElem?
  intro j
  rcases Nat.lt_or_ge j n with hj | hj
  · rw [tab_get n _ j hj]
    by_cases e : j = i
    · subst e
      rw [List.getElem?_set_self (by rw [tab_length]; omega), if_pos rfl]
    · rw [List.getElem?_set_ne (Ne.symm e), tab_get n g j hj, if_neg e]
  · rw [List.getElem?_eq_none (by rw [List.length_set, tab_length]; omega), List.getElem?_eq_none (by rw [tab_length]; omega)]
theorem tab_snoc {α : Type} (n : Nat) (g : Nat → α) : tab n g ++ [g n] = tab (n + 1) g := by simp [tab, List.range_succ]
/-- How far k of n steps lead along d, halves upward. -/
def partD (d k n : Int) : Int := (2 * k * d + n) / (2 * n)
theorem t_parts (v m : Int) (hm : 0 < m) : m * Int.tdiv v m + Int.tmod v m = v ∧ (0 ≤ v → 0 ≤ Int.tmod v m ∧ Int.tmod v m < m) ∧ (v < 0 → -m < Int.tmod v m ∧ Int.tmod v m ≤ 0) := by
  refine ⟨Int.mul_tdiv_add_tmod v m, fun h => ⟨Int.tmod_nonneg m h, Int.tmod_lt_of_pos v hm⟩, fun h => ?_⟩
  have e : Int.tmod v m = -(Int.tmod (-v) m) := by rw [Int.neg_tmod]; omega
  have h1 := Int.tmod_nonneg m (show 0 ≤ -v by omega)
  have h2 := Int.tmod_lt_of_pos (-v) hm
  omega
theorem spec_floor (v n : Int) (hn : 1 ≤ n ∧ n ≤ 15) (hv : -1000 ≤ v ∧ v ≤ 1000) :
    (if v < 0 then (if wrap64 (wrap64 (wrap64 (Int.tdiv v (2 * n)) * 2) * n) = v then some (wrap64 (Int.tdiv v (2 * n))) else some (wrap64 (wrap64 (Int.tdiv v (2 * n)) - 1))) else some (wrap64 (Int.tdiv v (2 * n)))) = some (v / (2 * n)) := by
  obtain ⟨h1, h2, h3⟩ := t_parts v (2 * n) (by omega)
  generalize Int.tdiv v (2 * n) = q at h1 ⊢
  generalize Int.tmod v (2 * n) = r at h1 h2 h3
  have hc : n = 1 ∨ n = 2 ∨ n = 3 ∨ n = 4 ∨ n = 5 ∨ n = 6 ∨ n = 7 ∨ n = 8 ∨ n = 9 ∨ n = 10 ∨ n = 11 ∨ n = 12 ∨ n = 13 ∨ n = 14 ∨ n = 15 := by omega
  rcases hc with rfl | rfl | rfl | rfl | rfl | rfl | rfl | rfl | rfl | rfl | rfl | rfl | rfl | rfl | rfl <;>
  · rw [w64 (show -9223372036854775808 ≤ q by omega) (by omega), w64 (show -9223372036854775808 ≤ q * 2 by omega) (by omega), w64 (show -9223372036854775808 ≤ q - 1 by omega) (by omega)]
    rw [w64 (by omega) (by omega)]
    by_cases hneg : v < 0
    · rw [if_pos hneg]
      split <;> (congr 1; omega)
    · rw [if_neg hneg]
      congr 1
      omega
theorem impl_floor (v n : Int) (hn : 1 ≤ n ∧ n ≤ 15) (hv : -1000 ≤ v ∧ v ≤ 1000) : impl_floorDiv.f v (2 * n) = some (v / (2 * n)) := by
  unfold impl_floorDiv.f
  obtain ⟨h1, h2, h3⟩ := t_parts v (2 * n) (by omega)
  generalize Int.tdiv v (2 * n) = q at h1 ⊢
  generalize Int.tmod v (2 * n) = r at h1 h2 h3 ⊢
  have hd : (decide (v < 0) != decide (2 * n < 0)) = decide (v < 0) := by rw [show decide (2 * n < 0) = false from decide_eq_false (by omega)]; simp
  rw [if_neg (show ¬ 2 * n = 0 by omega), hd]
  have hc : n = 1 ∨ n = 2 ∨ n = 3 ∨ n = 4 ∨ n = 5 ∨ n = 6 ∨ n = 7 ∨ n = 8 ∨ n = 9 ∨ n = 10 ∨ n = 11 ∨ n = 12 ∨ n = 13 ∨ n = 14 ∨ n = 15 := by omega
  rcases hc with rfl | rfl | rfl | rfl | rfl | rfl | rfl | rfl | rfl | rfl | rfl | rfl | rfl | rfl | rfl <;>
  · rw [w64 (show -9223372036854775808 ≤ q by omega) (by omega), w64 (show -9223372036854775808 ≤ q - 1 by omega) (by omega)]
    by_cases hr : r = 0
    · rw [if_pos hr]
      congr 1
      omega
    · rw [if_neg hr]
      by_cases hneg : v < 0
      · rw [if_pos (decide_eq_true hneg)]
        congr 1
        omega
      · rw [if_neg (by rw [decide_eq_false hneg]; decide)]
        congr 1
        omega
theorem mul_small (k d : Int) (hk : 0 ≤ k ∧ k ≤ 15) (hd : -15 ≤ d ∧ d ≤ 15) : -450 ≤ 2 * k * d ∧ 2 * k * d ≤ 450 := by
  have hc : k = 0 ∨ k = 1 ∨ k = 2 ∨ k = 3 ∨ k = 4 ∨ k = 5 ∨ k = 6 ∨ k = 7 ∨ k = 8 ∨ k = 9 ∨ k = 10 ∨ k = 11 ∨ k = 12 ∨ k = 13 ∨ k = 14 ∨ k = 15 := by omega
  rcases hc with rfl | rfl | rfl | rfl | rfl | rfl | rfl | rfl | rfl | rfl | rfl | rfl | rfl | rfl | rfl | rfl <;> omega
theorem part_small (v n : Int) (hn : 1 ≤ n ∧ n ≤ 15) (hv : -1000 ≤ v ∧ v ≤ 1000) : -1000 ≤ v / (2 * n) ∧ v / (2 * n) ≤ 1000 := by
  have hc : n = 1 ∨ n = 2 ∨ n = 3 ∨ n = 4 ∨ n = 5 ∨ n = 6 ∨ n = 7 ∨ n = 8 ∨ n = 9 ∨ n = 10 ∨ n = 11 ∨ n = 12 ∨ n = 13 ∨ n = 14 ∨ n = 15 := by omega
  rcases hc with rfl | rfl | rfl | rfl | rfl | rfl | rfl | rfl | rfl | rfl | rfl | rfl | rfl | rfl | rfl <;> omega
theorem part_range (d k n : Int) (hk : 0 ≤ k ∧ k ≤ 15) (hd : -15 ≤ d ∧ d ≤ 15) (hn : 1 ≤ n ∧ n ≤ 15) : -1000 ≤ partD d k n ∧ partD d k n ≤ 1000 := by
  have := mul_small k d hk hd
  exact part_small _ n hn (by omega)
theorem part_zero (d n : Int) (hn : 0 ≤ n) : partD d 0 n = 0 := by
  unfold partD
  rw [show 2 * 0 * d + n = n by rw [Int.mul_zero, Int.zero_mul]; omega]
  rcases Int.lt_or_eq_of_le hn with h | h
  · exact Int.ediv_eq_zero_of_lt hn (by omega)
  · rw [← h]; rfl
theorem spec_part (d k n : Int) (hk : 0 ≤ k ∧ k ≤ 15) (hd : -15 ≤ d ∧ d ≤ 15) (hn : 1 ≤ n ∧ n ≤ 15) : spec_l6Part.f d k n = some (partD d k n) := by
  have hm := mul_small k d hk hd
  unfold spec_l6Part.f partD
  rw [w64 (show -9223372036854775808 ≤ 2 * k by omega) (by omega), w64 (show -9223372036854775808 ≤ 2 * k * d by omega) (by omega), w64 (show -9223372036854775808 ≤ 2 * n by omega) (by omega), w64 (show -9223372036854775808 ≤ 2 * k * d + n by omega) (by omega), if_neg (show ¬ 2 * n = 0 by omega)]
  exact spec_floor _ n hn (by omega)
theorem impl_part (d k n : Int) (hk : 0 ≤ k ∧ k ≤ 15) (hd : -15 ≤ d ∧ d ≤ 15) (hn : 1 ≤ n ∧ n ≤ 15) : impl_floorDiv.f (wrap64 ((wrap64 ((wrap64 (2 * k)) * (wrap64 d))) + n)) (wrap64 (2 * n)) = some (partD d k n) := by
  have hm := mul_small k d hk hd
  unfold partD
  rw [w64 (show -9223372036854775808 ≤ 2 * k by omega) (by omega), w64 (show -9223372036854775808 ≤ d by omega) (by omega), w64 (show -9223372036854775808 ≤ 2 * k * d by omega) (by omega), w64 (show -9223372036854775808 ≤ 2 * n by omega) (by omega), w64 (show -9223372036854775808 ≤ 2 * k * d + n by omega) (by omega)]
  exact impl_floor _ n hn (by omega)
def absI (x : Int) : Int := if x < 0 then -x else x
def stepsI (ax ay bx cy : Int) : Int := max (absI (ax - bx)) (absI (ay - cy))
def cellX (ax bx n : Int) (k : Nat) : Int := ax + partD (bx - ax) (k : Int) n
def inC (x y : Int) : Bool := decide ((0 ≤ x ∧ x ≤ 15) ∧ 0 ≤ y ∧ y ≤ 15)
theorem inC_iff (x y : Int) : inC x y = true ↔ ((0 ≤ x ∧ x ≤ 15) ∧ 0 ≤ y ∧ y ≤ 15) := decide_eq_true_iff
theorem spec_inside (x y : Int) : spec_l6Inside.f x y = some (inC x y) := by
  unfold spec_l6Inside.f spec_l1In.f inC
  by_cases h0 : x ≥ 0 <;> by_cases h1 : x ≤ 15 <;> by_cases h2 : y ≥ 0 <;> simp [h0, h1, h2]
theorem spec_steps (ax ay bx cy : Int) (ha : inC ax ay = true) (hb : inC bx cy = true) : spec_l6Steps.f ax ay bx cy = some (stepsI ax ay bx cy) := by
  have h1 := (inC_iff _ _).1 ha
  have h2 := (inC_iff _ _).1 hb
  unfold spec_l6Steps.f spec_l6Abs.f stepsI absI
  rw [w64 (show -9223372036854775808 ≤ ax - bx by omega) (by omega), w64 (show -9223372036854775808 ≤ ay - cy by omega) (by omega), w64 (show -9223372036854775808 ≤ -(ax - bx) by omega) (by omega), w64 (show -9223372036854775808 ≤ -(ay - cy) by omega) (by omega)]
  by_cases c1 : ax - bx < 0
  · by_cases c2 : ay - cy < 0
    · simp only [if_pos c1, if_pos c2, Option.bind_some]
      split <;> (congr 1; omega)
    · simp only [if_pos c1, if_neg c2, Option.bind_some]
      split <;> (congr 1; omega)
  · by_cases c2 : ay - cy < 0
    · simp only [if_neg c1, if_pos c2, Option.bind_some]
      split <;> (congr 1; omega)
    · simp only [if_neg c1, if_neg c2, Option.bind_some]
      split <;> (congr 1; omega)
theorem impl_distI (a b : Int) (ha : 0 ≤ a ∧ a ≤ 15) (hb : 0 ≤ b ∧ b ≤ 15) : impl_dist.f a b = some (absI (a - b)) := by
  unfold impl_dist.f absI
  by_cases h : a > b
  · rw [if_pos h, if_neg (by omega), w64 (by omega) (by omega)]
  · rw [if_neg h, w64 (by omega) (by omega)]
    split <;> (congr 1; omega)
theorem steps_range {ax ay bx cy : Int} (ha : inC ax ay = true) (hb : inC bx cy = true) : 0 ≤ stepsI ax ay bx cy ∧ stepsI ax ay bx cy ≤ 15 := by
  have h1 := (inC_iff _ _).1 ha
  have h2 := (inC_iff _ _).1 hb
  unfold stepsI absI
  split <;> split <;> omega
theorem steps_swap (ax ay bx cy : Int) : stepsI bx cy ax ay = stepsI ax ay bx cy := by
  unfold stepsI absI
  split <;> split <;> split <;> split <;> omega
/-- The lesser first. -/
def turnC (ax ay bx cy : Int) : Bool := decide (bx < ax ∨ bx = ax ∧ cy < ay)
def cells (ax ay bx cy : Int) (n : Nat) : List S24 := tab (n + 1) (fun k => (⟨cellX ax bx (n : Int) k, cellX ay cy (n : Int) k⟩ : S24))
def pairs (ax ay bx cy : Int) (n : Nat) : List S39 := tab (n + 1) (fun k => (⟨cellX ax bx (n : Int) k, cellX ay cy (n : Int) k⟩ : S39))
theorem rdC (n : Nat) (g : Nat → S24) (i : Nat) (hi : i < n) : rd_T24 (tab n g) (i : Int) = g i := by
  show (tab n g).getD ((i : Int)).toNat _ = g i
  rw [Int.toNat_natCast, List.getD_eq_getElem?_getD, tab_get n g i hi]; rfl
theorem rdP (n : Nat) (g : Nat → S39) (i : Nat) (hi : i < n) : rd_T39 (tab n g) (i : Int) = g i := by
  show (tab n g).getD ((i : Int)).toNat _ = g i
  rw [Int.toNat_natCast, List.getD_eq_getElem?_getD, tab_get n g i hi]; rfl
def back {α : Type} (n : Nat) (g : Nat → α) : List α := tab n (fun m => g (n - 1 - m))
/-- From the lesser end, step by step. -/
theorem spec_forward (ax ay bx cy : Int) (ha : inC ax ay = true) (hb : inC bx cy = true) (n : Nat) (hn : stepsI ax ay bx cy = (n : Int)) :
    Ev (fun k => spec_SkyLeg.l1 k [(⟨ax, ay⟩ : S24)] (n : Int) 1 ax ay bx cy) (cells ax ay bx cy n) := by
  have h1 := (inC_iff _ _).1 ha
  have h2 := (inC_iff _ _).1 hb
  have hr := steps_range ha hb
  have go : ∀ d i : Nat, i + d = n + 1 → 1 ≤ i → Ev (fun k => spec_SkyLeg.l1 k (tab i (fun k => (⟨cellX ax bx (n : Int) k, cellX ay cy (n : Int) k⟩ : S24))) (n : Int) (i : Int) ax ay bx cy) (cells ax ay bx cy n) := by
    intro d
    induction d with
    | zero =>
      intro i hi h1i
      refine Ev.succ ?_
      simp only [spec_SkyLeg.l1]
      refine Ev.ite_neg (by omega) (Ev.cast (Ev.val _) ?_)
      rw [show i = n + 1 by omega]
      rfl
    | succ d ih =>
      intro i hi h1i
      have h := ih (i + 1) (by omega) (by omega)
      rw [show (((i + 1 : Nat) : Int)) = (i : Int) + 1 by omega] at h
      have p1 := part_range (bx - ax) (i : Int) (n : Int) (by omega) (by omega) (by omega)
      have p2 := part_range (cy - ay) (i : Int) (n : Int) (by omega) (by omega) (by omega)
      refine Ev.succ ?_
      simp only [spec_SkyLeg.l1]
      rw [w64 (show -9223372036854775808 ≤ bx - ax by omega) (by omega), w64 (show -9223372036854775808 ≤ cy - ay by omega) (by omega), spec_part (bx - ax) (i : Int) (n : Int) (by omega) (by omega) (by omega), spec_part (cy - ay) (i : Int) (n : Int) (by omega) (by omega) (by omega)]
      simp only [Option.bind_some, tab_length]
      rw [w64 (show -9223372036854775808 ≤ ax + partD (bx - ax) (i : Int) (n : Int) by omega) (by omega), w64 (show -9223372036854775808 ≤ ay + partD (cy - ay) (i : Int) (n : Int) by omega) (by omega), w64 (show -9223372036854775808 ≤ (i : Int) + 1 by omega) (by omega)]
      refine Ev.ite_pos (by omega) (Ev.ite_pos (by omega) ?_)
      rw [← tab_snoc] at h
      exact h
  have h := go n 1 (by omega) (by omega)
  rw [show tab 1 (fun k => (⟨cellX ax bx (n : Int) k, cellX ay cy (n : Int) k⟩ : S24)) = [(⟨ax, ay⟩ : S24)] from by
    show [(⟨cellX ax bx (n : Int) 0, cellX ay cy (n : Int) 0⟩ : S24)] = _
    unfold cellX
    rw [show (((0 : Nat) : Int)) = 0 from rfl, part_zero _ _ (by omega), part_zero _ _ (by omega), Int.add_zero, Int.add_zero]] at h
  exact h
def legOf (ax ay bx cy : Int) : List S24 :=
  if inC ax ay = true ∧ inC bx cy = true then
    (if turnC ax ay bx cy = true then back ((stepsI ax ay bx cy).toNat + 1) (fun k => (⟨cellX bx ax (stepsI ax ay bx cy) k, cellX cy ay (stepsI ax ay bx cy) k⟩ : S24)) else cells ax ay bx cy (stepsI ax ay bx cy).toNat)
  else []
theorem legOf_length (ax ay bx cy : Int) : (legOf ax ay bx cy).length ≤ 16 := by
  unfold legOf
  split
  · rename_i h
    have := steps_range h.1 h.2
    split
    · unfold back; rw [tab_length]; omega
    · unfold cells; rw [tab_length]; omega
  · exact Nat.zero_le _
theorem spec_leg (ax ay bx cy : Int) : Ev (fun k => spec_SkyLeg.f k ax ay bx cy) (legOf ax ay bx cy) := by
  have bad : ∀ x5 ax ay bx cy, Ev (fun k => spec_SkyLeg.j0 k x5 true ax ay bx cy) x5 := fun x5 ax ay bx cy => Ev.step (fun k => (by simp only [spec_SkyLeg.j0]; exact if_pos trivial)) (Ev.val _)
  have turn0 : ∀ (ax ay bx cy : Int) r, Ev (fun k => spec_SkyLeg.j1 k [] (turnC ax ay bx cy) ax ay bx cy) r → Ev (fun k => spec_SkyLeg.j0 k [] false ax ay bx cy) r := by
    intro ax ay bx cy r h
    refine Ev.succ ?_
    simp only [spec_SkyLeg.j0]
    refine Ev.ite_neg (by decide) ?_
    unfold turnC at h
    by_cases c1 : bx < ax
    · rw [decide_eq_true (Or.inl c1)] at h
      exact Ev.ite_pos c1 h
    · refine Ev.ite_neg c1 ?_
      by_cases c2 : bx = ax
      · refine Ev.ite_pos c2 ?_
        rw [show decide (bx < ax ∨ bx = ax ∧ cy < ay) = decide (cy < ay) from by by_cases c3 : cy < ay <;> simp [c1, c2, c3]] at h
        exact h
      · rw [decide_eq_false (by omega)] at h
        exact Ev.ite_neg c2 h
  have fwd : ∀ (ax ay bx cy : Int), inC ax ay = true → inC bx cy = true → turnC ax ay bx cy = false → Ev (fun k => spec_SkyLeg.f k ax ay bx cy) (cells ax ay bx cy (stepsI ax ay bx cy).toNat) := by
    intro ax ay bx cy ha hb ht
    have hr := steps_range ha hb
    refine Ev.succ ?_
    simp only [spec_SkyLeg.f, spec_inside, Option.bind_some, ha, hb, if_true, Bool.not_true]
    refine turn0 _ _ _ _ _ ?_
    rw [ht]
    refine Ev.succ ?_
    simp only [spec_SkyLeg.j1, spec_steps ax ay bx cy ha hb, Option.bind_some, List.nil_append]
    refine Ev.ite_neg (by decide) (Ev.ite_pos (by simp only [List.length_nil]; omega) ?_)
    have h := spec_forward ax ay bx cy ha hb (stepsI ax ay bx cy).toNat (by omega)
    rw [show (((stepsI ax ay bx cy).toNat : Nat) : Int) = stepsI ax ay bx cy by omega] at h
    exact h
  unfold legOf
  by_cases hin : inC ax ay = true ∧ inC bx cy = true
  · rw [if_pos hin]
    obtain ⟨ha, hb⟩ := hin
    by_cases ht : turnC ax ay bx cy = true
    · rw [if_pos ht]
      have hr := steps_range ha hb
      have ht' : turnC bx cy ax ay = false := by
        unfold turnC at ht ⊢
        have := of_decide_eq_true ht
        exact decide_eq_false (by omega)
      have hf := fwd bx cy ax ay hb ha ht'
      rw [steps_swap ax ay bx cy] at hf
      obtain ⟨n, hn⟩ : ∃ n : Nat, stepsI ax ay bx cy = (n : Int) := ⟨(stepsI ax ay bx cy).toNat, by omega⟩
      rw [hn, Int.toNat_natCast] at hf ⊢
      refine Ev.succ ?_
      simp only [spec_SkyLeg.f, spec_inside, Option.bind_some, ha, hb, if_true, Bool.not_true]
      refine turn0 _ _ _ _ _ ?_
      rw [ht]
      refine Ev.succ ?_
      simp only [spec_SkyLeg.j1]
      refine Ev.ite_pos trivial (Ev.bind hf ?_)
      have go : ∀ i m : Nat, m + i = n + 1 → Ev (fun k => spec_SkyLeg.l0 k (tab m (fun j => (⟨cellX bx ax (n : Int) (n - j), cellX cy ay (n : Int) (n - j)⟩ : S24))) (cells bx cy ax ay n) ((i : Int) - 1)) (back (n + 1) (fun k => (⟨cellX bx ax (n : Int) k, cellX cy ay (n : Int) k⟩ : S24))) := by
        intro i
        induction i with
        | zero =>
          intro m hm
          refine Ev.succ ?_
          simp only [spec_SkyLeg.l0]
          refine Ev.ite_neg (by omega) (Ev.cast (Ev.val _) ?_)
          rw [show m = n + 1 by omega]
          rfl
        | succ i ih =>
          intro m hm
          have h := ih (m + 1) (by omega)
          refine Ev.succ ?_
          simp only [spec_SkyLeg.l0]
          rw [show (((i + 1 : Nat) : Int)) - 1 = (i : Int) by omega, w64 (show -9223372036854775808 ≤ (i : Int) - 1 by omega) (by omega)]
          refine Ev.ite_pos (by omega) (Ev.ite_pos (by omega) (Ev.ite_pos (by unfold cells; rw [tab_length]; omega) (Ev.ite_pos (by rw [tab_length]; omega) ?_)))
          rw [show rd_T24 (cells bx cy ax ay n) (i : Int) = (⟨cellX bx ax (n : Int) i, cellX cy ay (n : Int) i⟩ : S24) from rdC _ _ i (by omega)]
          rw [← tab_snoc, show n - m = i by omega] at h
          exact h
      have h := go (n + 1) 0 (by omega)
      rw [show wrap64 (((cells bx cy ax ay n).length : Int) - 1) = ((n + 1 : Nat) : Int) - 1 from by unfold cells; rw [tab_length]; exact w64 (by omega) (by omega)]
      exact h
    · rw [if_neg ht]
      exact fwd ax ay bx cy ha hb (Bool.eq_false_iff.2 ht)
  · rw [if_neg hin]
    refine Ev.succ ?_
    simp only [spec_SkyLeg.f, spec_inside, Option.bind_some]
    by_cases ha : inC ax ay = true
    · refine Ev.ite_pos ha ?_
      rw [Bool.eq_false_iff.2 (fun hb => hin ⟨ha, hb⟩)]
      exact bad _ _ _ _ _
    · exact Ev.ite_neg ha (bad _ _ _ _ _)
/-! #### the program's own -/
theorem tab_setInt {α : Type} (n : Nat) (g : Nat → α) (i : Nat) (v : α) (hi : i < n) : (tab n g).set i v = tab n (fun j => if j = i then v else g j) := tab_set n g i v hi
theorem reverse_ev (n : Nat) (g : Nat → S39) (hn : 1 ≤ n) (hn2 : n ≤ 1048576) : Ev (fun k => slices_Reverse_2_int_2_int.f k (tab n g)) (back n g) := by
  unfold slices_Reverse_2_int_2_int.f
  rw [tab_length, w64 (show -9223372036854775808 ≤ (n : Int) - 1 by omega) (by omega)]
  have go : ∀ d i : Nat, 2 * i + d = n ∨ 2 * i + d = n + 1 → i ≤ n → (d = 0 → n ≤ 2 * i + 1) → Ev (fun k => slices_Reverse_2_int_2_int.l0 k (tab n (fun m => if m < i ∨ n - 1 - m < i then g (n - 1 - m) else g m)) (i : Int) ((n : Int) - 1 - i)) (back n g) := by
    intro d
    induction d using Nat.strongRecOn with
    | ind d ih =>
      intro i hd hi h0
      refine Ev.succ ?_
      simp only [slices_Reverse_2_int_2_int.l0]
      by_cases hlt : 2 * i + 1 < n
      · have h := ih (d - 2) (by omega) (i + 1) (by omega) (by omega) (by omega)
        obtain ⟨j, hj⟩ : ∃ j : Nat, j = n - 1 - i := ⟨_, rfl⟩
        have e : (n : Int) - 1 - (i : Int) = (j : Int) := by omega
        rw [e]
        rw [show (n : Int) - 1 - (((i + 1 : Nat)) : Int) = (j : Int) - 1 by omega, show (((i + 1 : Nat)) : Int) = (i : Int) + 1 by omega] at h
        simp only [Int.toNat_natCast, tab_length]
        rw [w64 (show -9223372036854775808 ≤ (i : Int) + 1 by omega) (by omega), w64 (show -9223372036854775808 ≤ (j : Int) - 1 by omega) (by omega)]
        refine Ev.ite_pos (by omega) (Ev.ite_pos (by omega) (Ev.ite_pos (by omega) (Ev.ite_pos (by omega) (Ev.ite_pos (by omega) ?_))))
        rw [rdP n _ j (by omega), rdP n _ i (by omega), tab_set n _ i _ (by omega), tab_set n _ j _ (by omega)]
        rw [show tab n (fun m => if m = j then (⟨(if i < i ∨ n - 1 - i < i then g (n - 1 - i) else g i).f0, (if i < i ∨ n - 1 - i < i then g (n - 1 - i) else g i).f1⟩ : S39) else if m = i then (⟨(if j < i ∨ n - 1 - j < i then g (n - 1 - j) else g j).f0, (if j < i ∨ n - 1 - j < i then g (n - 1 - j) else g j).f1⟩ : S39) else if m < i ∨ n - 1 - m < i then g (n - 1 - m) else g m) = tab n (fun m => if m < i + 1 ∨ n - 1 - m < i + 1 then g (n - 1 - m) else g m) from by
          refine tab_congr n _ _ (fun m hm => ?_)
          by_cases c1 : m = j
          · rw [if_pos c1, if_neg (by omega), if_pos (by omega), show n - 1 - m = i by omega]
          · rw [if_neg c1]
            by_cases c2 : m = i
            · rw [if_pos c2, if_neg (by omega), if_pos (by omega), show n - 1 - m = j by omega]
            · rw [if_neg c2]
              by_cases c3 : m < i ∨ n - 1 - m < i
              · rw [if_pos c3, if_pos (by omega)]
              · rw [if_neg c3, if_neg (by omega)]]
        exact h
      · refine Ev.ite_neg (by omega) (Ev.cast (Ev.val _) ?_)
        unfold back
        refine tab_congr n _ _ (fun m hm => ?_)
        by_cases c : m < i ∨ n - 1 - m < i
        · rw [if_pos c]
        · rw [if_neg c, show n - 1 - m = m by omega]
  have h := go n 0 (by omega) (by omega) (by omega)
  rw [show tab n (fun m => if m < 0 ∨ n - 1 - m < 0 then g (n - 1 - m) else g m) = tab n g from tab_congr n _ _ (fun m hm => if_neg (by omega)), show (n : Int) - 1 - ((0 : Nat) : Int) = (n : Int) - 1 by omega] at h
  exact h
theorem mx_max (a b : Int) : mx a b = max a b := by
  unfold mx; split <;> omega
theorem leg_last (ax ay bx cy : Int) (x9 : Bool) (n : Nat) (m : Nat) (hm : 1 ≤ m) (hm2 : m ≤ 16) :
    Ev (fun k => if x9 = true then ((slices_Reverse_2_int_2_int.f k (tab m (fun k => (⟨cellX ax bx (n : Int) k, cellX ay cy (n : Int) k⟩ : S39)))).bind fun t => some t) else some (tab m (fun k => (⟨cellX ax bx (n : Int) k, cellX ay cy (n : Int) k⟩ : S39))))
      (if x9 = true then back m (fun k => (⟨cellX ax bx (n : Int) k, cellX ay cy (n : Int) k⟩ : S39)) else tab m (fun k => (⟨cellX ax bx (n : Int) k, cellX ay cy (n : Int) k⟩ : S39))) := by
  cases x9 with
  | true => exact Ev.ite_pos rfl (Ev.cast (Ev.bind (reverse_ev m _ hm (by omega)) (Ev.val _)) (if_pos rfl).symm)
  | false => exact Ev.ite_neg (by decide) (Ev.cast (Ev.val _) (if_neg (by decide)).symm)
theorem impl_j1 (ax ay bx cy : Int) (x9 : Bool) (ha : inC ax ay = true) (hb : inC bx cy = true) (n : Nat) (hn : stepsI ax ay bx cy = (n : Int)) :
    Ev (fun k => impl_leg.j1 k ax ay bx cy x9) (if x9 = true then back (n + 1) (fun k => (⟨cellX ax bx (n : Int) k, cellX ay cy (n : Int) k⟩ : S39)) else tab (n + 1) (fun k => (⟨cellX ax bx (n : Int) k, cellX ay cy (n : Int) k⟩ : S39))) := by
  have h1 := (inC_iff _ _).1 ha
  have h2 := (inC_iff _ _).1 hb
  have hr := steps_range ha hb
  refine Ev.succ ?_
  simp only [impl_leg.j1, impl_distI ax bx h1.1 h2.1, impl_distI ay cy h1.2 h2.2, Option.bind_some, mx_max]
  rw [show max (absI (ax - bx)) (absI (ay - cy)) = (n : Int) from hn]
  have go : ∀ d i : Nat, i + d = n + 1 → (n = 0 → i = 0) → Ev (fun k => impl_leg.l0 k ax ay bx cy x9 (n : Int) (tab i (fun k => (⟨cellX ax bx (n : Int) k, cellX ay cy (n : Int) k⟩ : S39))) (i : Int)) (if x9 = true then back (n + 1) (fun k => (⟨cellX ax bx (n : Int) k, cellX ay cy (n : Int) k⟩ : S39)) else tab (n + 1) (fun k => (⟨cellX ax bx (n : Int) k, cellX ay cy (n : Int) k⟩ : S39))) := by
    intro d
    induction d with
    | zero =>
      intro i hi h0
      refine Ev.succ ?_
      simp only [impl_leg.l0]
      refine Ev.ite_neg (by omega) ?_
      rw [show i = n + 1 by omega]
      exact leg_last ax ay bx cy x9 n (n + 1) (by omega) (by omega)
    | succ d ih =>
      intro i hi h0
      refine Ev.succ ?_
      simp only [impl_leg.l0, tab_length, Option.bind_some]
      refine Ev.ite_pos (by omega) ?_
      by_cases hz : n = 0
      · refine Ev.ite_pos (by omega) (Ev.ite_pos (by omega) ?_)
        have hi0 := h0 hz
        subst hi0
        have e : tab 0 (fun k => (⟨cellX ax bx (n : Int) k, cellX ay cy (n : Int) k⟩ : S39)) ++ [(⟨ax, ay⟩ : S39)] = tab (n + 1) (fun k => (⟨cellX ax bx (n : Int) k, cellX ay cy (n : Int) k⟩ : S39)) := by
          subst hz
          show [(⟨ax, ay⟩ : S39)] = [(⟨cellX ax bx ((0 : Nat) : Int) 0, cellX ay cy ((0 : Nat) : Int) 0⟩ : S39)]
          unfold cellX
          rw [show (((0 : Nat) : Int)) = 0 from rfl, part_zero _ _ (by omega), part_zero _ _ (by omega), Int.add_zero, Int.add_zero]
        rw [e]
        exact leg_last ax ay bx cy x9 n (n + 1) (by omega) (by omega)
      · refine Ev.ite_neg (by omega) ?_
        have h := ih (i + 1) (by omega) (by omega)
        rw [show (((i + 1 : Nat) : Int)) = (i : Int) + 1 by omega] at h
        have p1 := part_range (bx - ax) (i : Int) (n : Int) (by omega) (by omega) (by omega)
        have p2 := part_range (cy - ay) (i : Int) (n : Int) (by omega) (by omega) (by omega)
        rw [impl_part (bx - ax) (i : Int) (n : Int) (by omega) (by omega) (by omega), impl_part (cy - ay) (i : Int) (n : Int) (by omega) (by omega) (by omega)]
        simp only [Option.bind_some]
        rw [w64 (show -9223372036854775808 ≤ ax + partD (bx - ax) (i : Int) (n : Int) by omega) (by omega), w64 (show -9223372036854775808 ≤ ay + partD (cy - ay) (i : Int) (n : Int) by omega) (by omega), w64 (show -9223372036854775808 ≤ (i : Int) + 1 by omega) (by omega)]
        refine Ev.ite_pos (by omega) ?_
        rw [← tab_snoc] at h
        exact h
  exact go (n + 1) 0 (by omega) (fun _ => rfl)
def pairsOf (ax ay bx cy : Int) : List S39 :=
  if turnC ax ay bx cy = true then back ((stepsI ax ay bx cy).toNat + 1) (fun k => (⟨cellX bx ax (stepsI ax ay bx cy) k, cellX cy ay (stepsI ax ay bx cy) k⟩ : S39)) else tab ((stepsI ax ay bx cy).toNat + 1) (fun k => (⟨cellX ax bx (stepsI ax ay bx cy) k, cellX ay cy (stepsI ax ay bx cy) k⟩ : S39))
theorem impl_legC (ax ay bx cy : Int) (ha : inC ax ay = true) (hb : inC bx cy = true) : Ev (fun k => impl_leg.f k ax ay bx cy) (pairsOf ax ay bx cy) := by
  have hr := steps_range ha hb
  obtain ⟨n, hn⟩ : ∃ n : Nat, stepsI ax ay bx cy = (n : Int) := ⟨(stepsI ax ay bx cy).toNat, by omega⟩
  have j0 : Ev (fun k => impl_leg.j0 k ax ay bx cy (turnC ax ay bx cy)) (pairsOf ax ay bx cy) := by
    refine Ev.succ ?_
    simp only [impl_leg.j0]
    unfold pairsOf
    rw [hn, Int.toNat_natCast]
    by_cases ht : turnC ax ay bx cy = true
    · rw [if_pos ht, ht]
      refine Ev.ite_pos rfl (Ev.cast (impl_j1 bx cy ax ay true hb ha n (by rw [steps_swap]; exact hn)) ?_)
      rw [if_pos rfl]
    · rw [if_neg ht, Bool.eq_false_iff.2 ht]
      refine Ev.ite_neg (by decide) (Ev.cast (impl_j1 ax ay bx cy false ha hb n hn) ?_)
      rw [if_neg (by decide)]
  unfold impl_leg.f
  unfold turnC at j0
  by_cases c1 : ax > bx
  · rw [decide_eq_true (Or.inl c1)] at j0
    exact Ev.ite_pos c1 j0
  · refine Ev.ite_neg c1 ?_
    by_cases c2 : ax = bx
    · refine Ev.ite_pos c2 ?_
      rw [show decide (bx < ax ∨ bx = ax ∧ cy < ay) = decide (ay > cy) from by
        by_cases c3 : ay > cy
        · rw [decide_eq_true c3, decide_eq_true (Or.inr ⟨c2.symm, c3⟩)]
        · rw [decide_eq_false c3, decide_eq_false (by omega)]] at j0
      exact j0
    · rw [decide_eq_false (by omega)] at j0
      exact Ev.ite_neg c2 j0
theorem copy_pairs (l : List S39) (g : Nat → S39) (n : Nat) (hl : l = tab n g) (hn : n ≤ 1048576) : Ev (fun k => impl_SkyLeg.l1 k [] l (l.length : Int) 0) (tab n (fun k => (⟨(g k).f0, (g k).f1⟩ : S24))) := by
  subst hl
  rw [tab_length]
  have go : ∀ d i : Nat, i + d = n → Ev (fun k => impl_SkyLeg.l1 k (tab i (fun k => (⟨(g k).f0, (g k).f1⟩ : S24))) (tab n g) (n : Int) (i : Int)) (tab n (fun k => (⟨(g k).f0, (g k).f1⟩ : S24))) := by
    intro d
    induction d with
    | zero =>
      intro i hi
      refine Ev.succ ?_
      simp only [impl_SkyLeg.l1]
      refine Ev.ite_neg (by omega) (Ev.cast (Ev.val _) ?_)
      rw [show i = n by omega]
    | succ d ih =>
      intro i hi
      have h := ih (i + 1) (by omega)
      rw [show (((i + 1 : Nat) : Int)) = (i : Int) + 1 by omega] at h
      refine Ev.succ ?_
      simp only [impl_SkyLeg.l1, tab_length]
      rw [w64 (show -9223372036854775808 ≤ (i : Int) + 1 by omega) (by omega), rdP n g i (by omega)]
      refine Ev.ite_pos (by omega) (Ev.ite_pos (by omega) (Ev.ite_pos (by omega) (Ev.ite_pos (by omega) ?_)))
      rw [← tab_snoc] at h
      exact h
  exact go n 0 (by omega)
theorem impl_skyleg (ax ay bx cy : Int) : Ev (fun k => impl_SkyLeg.f k ax ay bx cy) (legOf ax ay bx cy) := by
  unfold impl_SkyLeg.f
  simp only [Option.bind_some]
  have win : ∀ x : Int, impl_within.f x 0 15 = some (decide (0 ≤ x ∧ x ≤ 15)) := by
    intro x
    unfold impl_within.f
    by_cases h : x ≥ 0
    · simp [h]
    · simp [h]
  have round : ∀ (i : Nat) (x : Int) (k : Nat), i < 4 → rd [ax, ay, bx, cy] (i : Int) = x → impl_SkyLeg.l0 (k + 1) [ax, ay, bx, cy] 4 (i : Int) ax ay bx cy = if 0 ≤ x ∧ x ≤ 15 then impl_SkyLeg.l0 k [ax, ay, bx, cy] 4 ((i : Int) + 1) ax ay bx cy else some [] := by
    intro i x k hi hx
    simp only [impl_SkyLeg.l0, hx, win, Option.bind_some]
    rw [if_pos (by omega), if_pos (by omega), if_pos (by simp only [List.length_cons, List.length_nil]; omega), w64 (show -9223372036854775808 ≤ (i : Int) + 1 by omega) (by omega)]
    by_cases h : 0 ≤ x ∧ x ≤ 15
    · rw [if_pos (decide_eq_true h), if_pos h]
    · rw [if_neg (by rw [decide_eq_false h]; decide), if_neg h]
  have e4 : (([ax, ay, bx, cy] : List Int).length : Int) = 4 := rfl
  rw [e4]
  by_cases hin : inC ax ay = true ∧ inC bx cy = true
  · obtain ⟨ha, hb⟩ := hin
    have h1 := (inC_iff _ _).1 ha
    have h2 := (inC_iff _ _).1 hb
    have hr := steps_range ha hb
    refine Ev.step (fun k => (round 0 ax k (by omega) rfl).trans (if_pos h1.1)) ?_
    refine Ev.step (fun k => (round 1 ay k (by omega) rfl).trans (if_pos h1.2)) ?_
    refine Ev.step (fun k => (round 2 bx k (by omega) rfl).trans (if_pos h2.1)) ?_
    refine Ev.step (fun k => (round 3 cy k (by omega) rfl).trans (if_pos h2.2)) ?_
    refine Ev.succ ?_
    simp only [impl_SkyLeg.l0]
    refine Ev.ite_neg (by omega) (Ev.bind (impl_legC ax ay bx cy ha hb) ?_)
    unfold legOf
    rw [if_pos ⟨ha, hb⟩]
    unfold pairsOf
    obtain ⟨n, hn⟩ : ∃ n : Nat, stepsI ax ay bx cy = (n : Int) := ⟨(stepsI ax ay bx cy).toNat, by omega⟩
    rw [hn, Int.toNat_natCast]
    by_cases ht : turnC ax ay bx cy = true
    · rw [if_pos ht, if_pos ht]
      exact copy_pairs _ _ (n + 1) rfl (by omega)
    · rw [if_neg ht, if_neg ht]
      exact copy_pairs _ _ (n + 1) rfl (by omega)
  · unfold legOf
    rw [if_neg hin]
    by_cases h1 : 0 ≤ ax ∧ ax ≤ 15
    · refine Ev.step (fun k => (round 0 ax k (by omega) rfl).trans (if_pos h1)) ?_
      by_cases h2 : 0 ≤ ay ∧ ay ≤ 15
      · refine Ev.step (fun k => (round 1 ay k (by omega) rfl).trans (if_pos h2)) ?_
        by_cases h3 : 0 ≤ bx ∧ bx ≤ 15
        · refine Ev.step (fun k => (round 2 bx k (by omega) rfl).trans (if_pos h3)) ?_
          by_cases h4 : 0 ≤ cy ∧ cy ≤ 15
          · exact absurd ⟨(inC_iff _ _).2 ⟨h1, h2⟩, (inC_iff _ _).2 ⟨h3, h4⟩⟩ hin
          · exact Ev.step (fun k => (round 3 cy k (by omega) rfl).trans (if_neg h4)) (Ev.val _)
        · exact Ev.step (fun k => (round 2 bx k (by omega) rfl).trans (if_neg h3)) (Ev.val _)
      · exact Ev.step (fun k => (round 1 ay k (by omega) rfl).trans (if_neg h2)) (Ev.val _)
    · exact Ev.step (fun k => (round 0 ax k (by omega) rfl).trans (if_neg h1)) (Ev.val _)
theorem xor_small (a b : Nat) (ha : a < 4611686018427387904) (hb : b < 4611686018427387904) : ∃ m : Nat, m < 4611686018427387904 ∧ Go.bits .xor .i64 (a : Int) (b : Int) = (m : Int) := by
  have hx : a ^^^ b < 2 ^ 62 := Nat.xor_lt_two_pow (by omega) (by omega)
  have h1 : (BitVec.ofInt 64 (a : Int)).toNat = a := by
    rw [BitVec.ofInt_natCast, BitVec.toNat_ofNat]; exact Nat.mod_eq_of_lt (by omega)
  have h2 : (BitVec.ofInt 64 (b : Int)).toNat = b := by
    rw [BitVec.ofInt_natCast, BitVec.toNat_ofNat]; exact Nat.mod_eq_of_lt (by omega)
  refine ⟨a ^^^ b, by omega, ?_⟩
  show IntKind.i64.wrap ((BitVec.ofInt 64 (a : Int) ^^^ BitVec.ofInt 64 (b : Int)).toNat : Int) = _
  rw [BitVec.toNat_xor, h1, h2]
  simp only [IntKind.wrap, IntKind.bits, IntKind.signed]
  simp
  omega
theorem byte_range {l : List Int} (hl : ∀ x ∈ l, (Lit.int .u8 x).wf = true) (i : Int) : 0 ≤ rd l i ∧ rd l i ≤ 255 := by
  by_cases h : i.toNat < l.length
  · have e : rd l i = l[i.toNat] := by
      show l.getD i.toNat 0 = _
      rw [List.getD_eq_getElem?_getD, List.getElem?_eq_getElem h]; rfl
    have := hl _ (List.getElem_mem h)
    rw [← e] at this
    simp only [Lit.wf, Bool.and_eq_true, decide_eq_true_eq] at this
    have h3 : IntKind.u8.min = 0 := rfl
    have h4 : IntKind.u8.max = 255 := rfl
    omega
  · have e : rd l i = 0 := by
      show l.getD i.toNat 0 = _
      rw [List.getD_eq_getElem?_getD, List.getElem?_eq_none (by omega)]; rfl
    omega
theorem tmod_range (x n : Int) (hx : 0 ≤ x) (hn : 0 < n) : 0 ≤ Int.tmod x n ∧ Int.tmod x n < n := ⟨Int.tmod_nonneg n hx, Int.tmod_lt_of_pos x hn⟩
theorem tdiv_range (x n : Int) (hx : 0 ≤ x) (hn : 0 < n) : 0 ≤ Int.tdiv x n ∧ Int.tdiv x n ≤ x := by
  rw [Int.tdiv_eq_ediv_of_nonneg hx]
  refine ⟨Int.ediv_nonneg hx (by omega), Int.ediv_le_self n hx⟩
/-- A number from 0 to n - 1; the place moves on by one. -/
theorem pick_ev (l : List Int) (hl : ∀ x ∈ l, (Lit.int .u8 x).wf = true) (hlen : l.length ≤ 2000) (p n : Int) (hp : 0 ≤ p) (hp2 : p ≤ 1000000) (hn : 1 ≤ n) (hn2 : n ≤ 1000000) :
    ∃ v, 0 ≤ v ∧ v < n ∧ Ev (fun k => spec_l1Rd_pick.f k l p n) (v, p + 1) := by
  unfold spec_l1Rd_pick.f
  simp only [w64 (show -9223372036854775808 ≤ p + 1 by omega) (show p + 1 ≤ 9223372036854775807 by omega), if_neg (show ¬ n < 1 by omega)]
  have hw : ∀ v : Int, -1000000000000 ≤ v → v ≤ 1000000000000 → wrap64 v = v := fun v h1 h2 => w64 (by omega) (by omega)
  by_cases h0 : l.length = 0
  · refine ⟨0, by omega, by omega, ?_⟩
    rw [show ((l.length : Int) == 0) = true from by rw [h0]; rfl]
    refine Ev.succ ?_
    simp only [spec_l1Rd_pick.j0]
    exact Ev.ite_pos trivial (Ev.val _)
  · rw [show ((l.length : Int) == 0) = false from by rw [beq_eq_false_iff_ne]; omega]
    by_cases h1 : p < (l.length : Int)
    · have hb := byte_range hl p
      have ht := tmod_range (rd l p) n hb.1 (by omega)
      refine ⟨Int.tmod (rd l p) n, ht.1, ht.2, ?_⟩
      refine Ev.succ ?_
      simp only [spec_l1Rd_pick.j0]
      rw [hw (p + 1 - 1) (by omega) (by omega), show p + 1 - 1 = p by omega, hw (rd l p) (by omega) (by omega)]
      exact Ev.ite_neg (by decide) (Ev.ite_pos h1 (Ev.ite_pos hp (Ev.ite_neg (by omega) (Ev.val _))))
    · have t1 := tmod_range p (l.length : Int) hp (by omega)
      have t2 := tmod_range (p * 7 + 3) (l.length : Int) (by omega) (by omega)
      have t3 := tdiv_range p (l.length : Int) hp (by omega)
      have b1 := byte_range hl (Int.tmod p (l.length : Int))
      have b2 := byte_range hl (Int.tmod (p * 7 + 3) (l.length : Int))
      obtain ⟨X, hX⟩ : ∃ X : Int, X = rd l (Int.tmod p (l.length : Int)) * 131 + rd l (Int.tmod (p * 7 + 3) (l.length : Int)) * 1117 + p * 29 + Int.tdiv p (l.length : Int) * 53 := ⟨_, rfl⟩
      have hX0 : 0 ≤ X ∧ X ≤ 1000000000 := by omega
      have d1 := tdiv_range X 64 hX0.1 (by omega)
      obtain ⟨m, hm, hme⟩ := xor_small X.toNat (Int.tdiv X 64).toNat (by omega) (by omega)
      rw [show ((X.toNat : Nat) : Int) = X by omega, show (((Int.tdiv X 64).toNat : Nat) : Int) = Int.tdiv X 64 by omega] at hme
      have ht := tmod_range (m : Int) n (by omega) (by omega)
      refine ⟨Int.tmod (m : Int) n, ht.1, ht.2, ?_⟩
      refine Ev.succ ?_
      simp only [spec_l1Rd_pick.j0]
      rw [hw (p + 1 - 1) (by omega) (by omega), show p + 1 - 1 = p by omega, hw (p * 7) (by omega) (by omega), hw (p * 7 + 3) (by omega) (by omega), hw (Int.tdiv p (l.length : Int)) (by omega) (by omega), hw (p * 29) (by omega) (by omega), hw (Int.tdiv p (l.length : Int) * 53) (by omega) (by omega), hw (rd l (Int.tmod p (l.length : Int))) (by omega) (by omega), hw (rd l (Int.tmod (p * 7 + 3) (l.length : Int))) (by omega) (by omega), hw (rd l (Int.tmod p (l.length : Int)) * 131) (by omega) (by omega), hw (rd l (Int.tmod (p * 7 + 3) (l.length : Int)) * 1117) (by omega) (by omega), hw (rd l (Int.tmod p (l.length : Int)) * 131 + rd l (Int.tmod (p * 7 + 3) (l.length : Int)) * 1117) (by omega) (by omega), hw (rd l (Int.tmod p (l.length : Int)) * 131 + rd l (Int.tmod (p * 7 + 3) (l.length : Int)) * 1117 + p * 29) (by omega) (by omega), ← hX, hw X (by omega) (by omega), hw (Int.tdiv X 64) (by omega) (by omega), hme]
      exact Ev.ite_neg (by decide) (Ev.ite_neg h1 (Ev.ite_neg (by omega) (Ev.ite_pos t1.1 (Ev.ite_pos t1.2 (Ev.ite_pos t2.1 (Ev.ite_pos t2.2 (Ev.ite_neg (by omega) (Ev.val _))))))))
theorem open_ev (l : List Int) (hl : ∀ x ∈ l, (Lit.int .u8 x).wf = true) : ∃ l', (∀ x ∈ l', (Lit.int .u8 x).wf = true) ∧ l'.length ≤ 2000 ∧ spec_l1Open.f l = some (l', 0) := by
  unfold spec_l1Open.f
  by_cases h : (l.length : Int) > 2000
  · exact ⟨l.take 2000, fun x hx => hl x (List.mem_of_mem_take hx), by rw [List.length_take]; omega, by rw [if_pos h, if_pos (by omega)]⟩
  · exact ⟨l, hl, by omega, by rw [if_neg h]⟩
theorem draw_ev (l : List Int) (hl : ∀ x ∈ l, (Lit.int .u8 x).wf = true) : ∃ ax ay bx cy, Ev (fun k => spec_DrawSkyLeg.f k l) (ax, ay, bx, cy) := by
  unfold spec_DrawSkyLeg.f
  obtain ⟨l', hl', hlen, ho⟩ := open_ev l hl
  rw [ho]
  simp only [Option.bind_some]
  obtain ⟨v1, _, _, h1⟩ := pick_ev l' hl' hlen 0 16 (by omega) (by omega) (by omega) (by omega)
  obtain ⟨v2, _, _, h2⟩ := pick_ev l' hl' hlen (0 + 1) 16 (by omega) (by omega) (by omega) (by omega)
  obtain ⟨v3, _, _, h3⟩ := pick_ev l' hl' hlen (0 + 1 + 1) 16 (by omega) (by omega) (by omega) (by omega)
  obtain ⟨v4, _, _, h4⟩ := pick_ev l' hl' hlen (0 + 1 + 1 + 1) 16 (by omega) (by omega) (by omega) (by omega)
  obtain ⟨v5, _, _, h5⟩ := pick_ev l' hl' hlen (0 + 1 + 1 + 1 + 1) 12 (by omega) (by omega) (by omega) (by omega)
  obtain ⟨v6, h60, h61, h6⟩ := pick_ev l' hl' hlen (0 + 1 + 1 + 1 + 1 + 1) 2 (by omega) (by omega) (by omega) (by omega)
  by_cases h : v5 = 0
  · exact ⟨v1, v2, rd [(-1), 16] v6, v4, Ev.bind h1 (Ev.bind h2 (Ev.bind h3 (Ev.bind h4 (Ev.bind h5 (Ev.ite_pos h (Ev.bind h6 (Ev.ite_pos h60 (Ev.ite_pos (by simp only [List.length_cons, List.length_nil]; omega) (Ev.val _)))))))))⟩
  · exact ⟨v1, v2, v3, v4, Ev.bind h1 (Ev.bind h2 (Ev.bind h3 (Ev.bind h4 (Ev.bind h5 (Ev.ite_neg h (Ev.val _))))))⟩
/-! #### what the cells are -/
theorem part_err (d k n : Int) (hn : 1 ≤ n ∧ n ≤ 15) : -n ≤ 2 * n * partD d k n - 2 * k * d ∧ 2 * n * partD d k n - 2 * k * d ≤ n := by
  unfold partD
  generalize 2 * k * d = v
  have hc : n = 1 ∨ n = 2 ∨ n = 3 ∨ n = 4 ∨ n = 5 ∨ n = 6 ∨ n = 7 ∨ n = 8 ∨ n = 9 ∨ n = 10 ∨ n = 11 ∨ n = 12 ∨ n = 13 ∨ n = 14 ∨ n = 15 := by omega
  rcases hc with rfl | rfl | rfl | rfl | rfl | rfl | rfl | rfl | rfl | rfl | rfl | rfl | rfl | rfl | rfl <;> omega
theorem part_step (d k n : Int) (hn : 1 ≤ n ∧ n ≤ 15) (hd : -n ≤ d ∧ d ≤ n) : -1 ≤ partD d (k + 1) n - partD d k n ∧ partD d (k + 1) n - partD d k n ≤ 1 := by
  unfold partD
  rw [show 2 * (k + 1) * d = 2 * k * d + 2 * d by rw [Int.mul_add, Int.add_mul]; omega]
  generalize 2 * k * d = v
  have hc : n = 1 ∨ n = 2 ∨ n = 3 ∨ n = 4 ∨ n = 5 ∨ n = 6 ∨ n = 7 ∨ n = 8 ∨ n = 9 ∨ n = 10 ∨ n = 11 ∨ n = 12 ∨ n = 13 ∨ n = 14 ∨ n = 15 := by omega
  rcases hc with rfl | rfl | rfl | rfl | rfl | rfl | rfl | rfl | rfl | rfl | rfl | rfl | rfl | rfl | rfl <;> omega
theorem part_full (k n : Int) (hn : 1 ≤ n ∧ n ≤ 15) : partD n k n = k ∧ partD (-n) k n = -k := by
  unfold partD
  have hc : n = 1 ∨ n = 2 ∨ n = 3 ∨ n = 4 ∨ n = 5 ∨ n = 6 ∨ n = 7 ∨ n = 8 ∨ n = 9 ∨ n = 10 ∨ n = 11 ∨ n = 12 ∨ n = 13 ∨ n = 14 ∨ n = 15 := by omega
  rcases hc with rfl | rfl | rfl | rfl | rfl | rfl | rfl | rfl | rfl | rfl | rfl | rfl | rfl | rfl | rfl <;> omega
theorem absI_le (x b : Int) : absI x ≤ b ↔ -b ≤ x ∧ x ≤ b := by unfold absI; split <;> omega
theorem absI_neg (x : Int) : absI (-x) = absI x := by unfold absI; split <;> split <;> omega
/-- One coordinate on the way from a to b in n steps. -/
structure Way (a b n : Int) (h : Int → Int) : Prop where
  first : h 0 = a
  last : h n = b
  small : ∀ i, 0 ≤ i → i ≤ n → -2000 ≤ h i ∧ h i ≤ 2000
  err : ∀ i, 0 ≤ i → i ≤ n → -n ≤ 2 * n * (h i - a) - 2 * i * (b - a) ∧ 2 * n * (h i - a) - 2 * i * (b - a) ≤ n
  step : ∀ i, 0 ≤ i → i < n → absI (h i - h (i + 1)) ≤ 1
  full : absI (b - a) = n → ∀ i, 0 ≤ i → i < n → absI (h i - h (i + 1)) = 1
theorem way_forward (a b n : Int) (hn : 1 ≤ n ∧ n ≤ 15) (ha : 0 ≤ a ∧ a ≤ 15) (hb : 0 ≤ b ∧ b ≤ 15) (hd : absI (b - a) ≤ n) : Way a b n (fun k => a + partD (b - a) k n) := by
  have hd' := (absI_le _ _).1 hd
  refine ⟨by show a + partD (b - a) 0 n = a; rw [part_zero _ _ (by omega)]; omega, ?_, ?_, ?_, ?_, ?_⟩
  · show a + partD (b - a) n n = b
    have e : partD (b - a) n n = b - a := by
      unfold partD
      have hc : n = 1 ∨ n = 2 ∨ n = 3 ∨ n = 4 ∨ n = 5 ∨ n = 6 ∨ n = 7 ∨ n = 8 ∨ n = 9 ∨ n = 10 ∨ n = 11 ∨ n = 12 ∨ n = 13 ∨ n = 14 ∨ n = 15 := by omega
      rcases hc with rfl | rfl | rfl | rfl | rfl | rfl | rfl | rfl | rfl | rfl | rfl | rfl | rfl | rfl | rfl <;> omega
    omega
  · intro i h0 h1
    have := part_range (b - a) i n (by omega) (by omega) hn
    show -2000 ≤ a + partD (b - a) i n ∧ a + partD (b - a) i n ≤ 2000
    omega
  · intro i h0 h1
    show -n ≤ 2 * n * (a + partD (b - a) i n - a) - 2 * i * (b - a) ∧ 2 * n * (a + partD (b - a) i n - a) - 2 * i * (b - a) ≤ n
    rw [show a + partD (b - a) i n - a = partD (b - a) i n by omega]
    exact part_err _ _ _ hn
  · intro i h0 h1
    have := part_step (b - a) i n hn hd'
    show absI (a + partD (b - a) i n - (a + partD (b - a) (i + 1) n)) ≤ 1
    rw [absI_le]
    omega
  · intro hf i h0 h1
    show absI (a + partD (b - a) i n - (a + partD (b - a) (i + 1) n)) = 1
    have f1 := part_full i n hn
    have f2 := part_full (i + 1) n hn
    have hc : b - a = n ∨ b - a = -n := by unfold absI at hf; split at hf <;> omega
    rcases hc with e | e
    · rw [e, f1.1, f2.1]; unfold absI; split <;> omega
    · rw [e, f1.2, f2.2]; unfold absI; split <;> omega
theorem way_back {a b n : Int} {h : Int → Int} (w : Way a b n h) : Way b a n (fun k => h (n - k)) := by
  refine ⟨by show h (n - 0) = b; rw [Int.sub_zero]; exact w.last, by show h (n - n) = a; rw [Int.sub_self]; exact w.first, fun i h0 h1 => w.small (n - i) (by omega) (by omega), ?_, ?_, ?_⟩
  · intro i h0 h1
    have := w.err (n - i) (by omega) (by omega)
    show -n ≤ 2 * n * (h (n - i) - b) - 2 * i * (a - b) ∧ 2 * n * (h (n - i) - b) - 2 * i * (a - b) ≤ n
    rw [show 2 * n * (h (n - i) - b) - 2 * i * (a - b) = 2 * n * (h (n - i) - a) - 2 * (n - i) * (b - a) by
      simp only [Int.mul_sub, Int.sub_mul]; omega]
    exact this
  · intro i h0 h1
    have := w.step (n - i - 1) (by omega) (by omega)
    show absI (h (n - i) - h (n - (i + 1))) ≤ 1
    rw [show n - i - 1 + 1 = n - i by omega] at this
    rw [show n - (i + 1) = n - i - 1 by omega, ← absI_neg, show -(h (n - i) - h (n - i - 1)) = h (n - i - 1) - h (n - i) by omega]
    exact this
  · intro hf i h0 h1
    have := w.full (by rw [← absI_neg, show -(b - a) = a - b by omega]; exact hf) (n - i - 1) (by omega) (by omega)
    show absI (h (n - i) - h (n - (i + 1))) = 1
    rw [show n - i - 1 + 1 = n - i by omega] at this
    rw [show n - (i + 1) = n - i - 1 by omega, ← absI_neg, show -(h (n - i) - h (n - i - 1)) = h (n - i - 1) - h (n - i) by omega]
    exact this
def Ways (ax ay bx cy n : Int) (hx hy : Int → Int) : Prop := Way ax bx n hx ∧ Way ay cy n hy
theorem steps_le {ax ay bx cy n : Int} (h : stepsI ax ay bx cy = n) : absI (bx - ax) ≤ n ∧ absI (cy - ay) ≤ n ∧ (absI (bx - ax) = n ∨ absI (cy - ay) = n) := by
  unfold stepsI at h
  rw [← absI_neg (bx - ax), ← absI_neg (cy - ay), show -(bx - ax) = ax - bx by omega, show -(cy - ay) = ay - cy by omega]
  omega
/-- The cells there, and the cells back. -/
theorem legs_are (ax ay bx cy : Int) (ha : inC ax ay = true) (hb : inC bx cy = true) : ∃ (n : Nat) (hx hy : Int → Int), stepsI ax ay bx cy = (n : Int) ∧ n ≤ 15 ∧
    legOf ax ay bx cy = tab (n + 1) (fun k => (⟨hx (k : Int), hy (k : Int)⟩ : S24)) ∧ legOf bx cy ax ay = tab (n + 1) (fun k => (⟨hx ((n : Int) - (k : Int)), hy ((n : Int) - (k : Int))⟩ : S24)) ∧
    hx 0 = ax ∧ hy 0 = ay ∧ hx (n : Int) = bx ∧ hy (n : Int) = cy ∧ (1 ≤ n → Ways ax ay bx cy (n : Int) hx hy) := by
  have h1 := (inC_iff _ _).1 ha
  have h2 := (inC_iff _ _).1 hb
  have hr := steps_range ha hb
  obtain ⟨n, hn⟩ : ∃ n : Nat, stepsI ax ay bx cy = (n : Int) := ⟨(stepsI ax ay bx cy).toNat, by omega⟩
  have hs := steps_le hn
  have hn2 : stepsI bx cy ax ay = (n : Int) := by rw [steps_swap]; exact hn
  have hs2 := steps_le hn2
  have wf : ∀ ax ay bx cy : Int, ((0 ≤ ax ∧ ax ≤ 15) ∧ 0 ≤ ay ∧ ay ≤ 15) → ((0 ≤ bx ∧ bx ≤ 15) ∧ 0 ≤ cy ∧ cy ≤ 15) → absI (bx - ax) ≤ (n : Int) → absI (cy - ay) ≤ (n : Int) → 1 ≤ n → n ≤ 15 → Ways ax ay bx cy (n : Int) (fun k => ax + partD (bx - ax) k (n : Int)) (fun k => ay + partD (cy - ay) k (n : Int)) :=
    fun ax ay bx cy h1 h2 h3 h4 h5 h6 => ⟨way_forward ax bx (n : Int) (by omega) h1.1 h2.1 h3, way_forward ay cy (n : Int) (by omega) h1.2 h2.2 h4⟩
  by_cases ht : turnC ax ay bx cy = true
  · have ht' : turnC bx cy ax ay = false := by
      unfold turnC at ht ⊢
      have := of_decide_eq_true ht
      exact decide_eq_false (by omega)
    have hne : 1 ≤ n := by
      unfold turnC at ht
      have hd := of_decide_eq_true ht
      rcases Nat.eq_zero_or_pos n with e | e
      · have q1 := (absI_le _ _).1 hs.1
        have q2 := (absI_le _ _).1 hs.2.1
        omega
      · exact e
    have W := wf bx cy ax ay h2 h1 hs2.1 hs2.2.1 hne (by omega)
    refine ⟨n, fun k => bx + partD (ax - bx) ((n : Int) - k) (n : Int), fun k => cy + partD (ay - cy) ((n : Int) - k) (n : Int), hn, by omega, ?_, ?_, ?_, ?_, ?_, ?_, fun _ => ⟨way_back W.1, way_back W.2⟩⟩
    · unfold legOf
      rw [if_pos ⟨ha, hb⟩, if_pos ht, hn, Int.toNat_natCast]
      unfold back
      refine tab_congr _ _ _ (fun k hk => ?_)
      have e : (((n + 1 - 1 - k : Nat)) : Int) = (n : Int) - (k : Int) := by omega
      show (⟨bx + partD (ax - bx) (((n + 1 - 1 - k : Nat)) : Int) (n : Int), cy + partD (ay - cy) (((n + 1 - 1 - k : Nat)) : Int) (n : Int)⟩ : S24) = ⟨bx + partD (ax - bx) ((n : Int) - (k : Int)) (n : Int), cy + partD (ay - cy) ((n : Int) - (k : Int)) (n : Int)⟩
      rw [e]
    · unfold legOf
      rw [if_pos ⟨hb, ha⟩, if_neg (by rw [ht']; decide), hn2, Int.toNat_natCast]
      unfold cells
      refine tab_congr _ _ _ (fun k hk => ?_)
      unfold cellX
      show (⟨bx + partD (ax - bx) (k : Int) (n : Int), cy + partD (ay - cy) (k : Int) (n : Int)⟩ : S24) = ⟨bx + partD (ax - bx) ((n : Int) - ((n : Int) - (k : Int))) (n : Int), cy + partD (ay - cy) ((n : Int) - ((n : Int) - (k : Int))) (n : Int)⟩
      rw [show (n : Int) - ((n : Int) - (k : Int)) = (k : Int) by omega]
    · exact (way_back W.1).first
    · exact (way_back W.2).first
    · exact (way_back W.1).last
    · exact (way_back W.2).last
  · have hf := Bool.eq_false_iff.2 ht
    refine ⟨n, fun k => ax + partD (bx - ax) k (n : Int), fun k => ay + partD (cy - ay) k (n : Int), hn, by omega, ?_, ?_, ?_, ?_, ?_, ?_, fun hne => wf ax ay bx cy h1 h2 hs.1 hs.2.1 hne (by omega)⟩
    · unfold legOf
      rw [if_pos ⟨ha, hb⟩, if_neg ht, hn, Int.toNat_natCast]
      rfl
    · by_cases hne : 1 ≤ n
      · have ht2 : turnC bx cy ax ay = true := by
          unfold turnC at hf ⊢
          have hd := of_decide_eq_false hf
          refine decide_eq_true ?_
          rcases hs.2.2 with e | e
          · unfold absI at e; split at e <;> omega
          · unfold absI at e; split at e <;> omega
        unfold legOf
        rw [if_pos ⟨hb, ha⟩, if_pos ht2, hn2, Int.toNat_natCast]
        unfold back
        refine tab_congr _ _ _ (fun k hk => ?_)
        have e : (((n + 1 - 1 - k : Nat)) : Int) = (n : Int) - (k : Int) := by omega
        show (⟨ax + partD (bx - ax) (((n + 1 - 1 - k : Nat)) : Int) (n : Int), ay + partD (cy - ay) (((n + 1 - 1 - k : Nat)) : Int) (n : Int)⟩ : S24) = ⟨ax + partD (bx - ax) ((n : Int) - (k : Int)) (n : Int), ay + partD (cy - ay) ((n : Int) - (k : Int)) (n : Int)⟩
        rw [e]
      · have q1 := (absI_le _ _).1 hs.1
        have q2 := (absI_le _ _).1 hs.2.1
        have hn0 : n = 0 := by omega
        subst hn0
        have e1 : ax = bx := by omega
        have e2 : ay = cy := by omega
        subst e1
        subst e2
        unfold legOf
        rw [if_pos ⟨ha, ha⟩, if_neg ht, hn]
        rfl
    · show ax + partD (bx - ax) 0 (n : Int) = ax
      rw [part_zero _ _ (by omega)]; omega
    · show ay + partD (cy - ay) 0 (n : Int) = ay
      rw [part_zero _ _ (by omega)]; omega
    · by_cases hne : 1 ≤ n
      · exact (wf ax ay bx cy h1 h2 hs.1 hs.2.1 hne (by omega)).1.last
      · have q1 := (absI_le _ _).1 hs.1
        have hn0 : n = 0 := by omega
        subst hn0
        show ax + partD (bx - ax) 0 _ = bx
        rw [part_zero _ _ (by omega)]; omega
    · by_cases hne : 1 ≤ n
      · exact (wf ax ay bx cy h1 h2 hs.1 hs.2.1 hne (by omega)).2.last
      · have q2 := (absI_le _ _).1 hs.2.1
        have hn0 : n = 0 := by omega
        subst hn0
        show ay + partD (cy - ay) 0 _ = cy
        rw [part_zero _ _ (by omega)]; omega
theorem ways_step {ax ay bx cy n : Int} {hx hy : Int → Int} (w : Ways ax ay bx cy n hx hy) (hn : stepsI ax ay bx cy = n) (i : Int) (h0 : 0 ≤ i) (h1 : i < n) : stepsI (hx i) (hy i) (hx (i + 1)) (hy (i + 1)) = 1 := by
  have s1 := w.1.step i h0 h1
  have s2 := w.2.step i h0 h1
  have hs := steps_le hn
  unfold stepsI
  rcases hs.2.2 with e | e
  · have := w.1.full e i h0 h1
    omega
  · have := w.2.full e i h0 h1
    omega
/-! #### the law -/
theorem wmAbs_ev (x : Int) (h : -1000000 ≤ x ∧ x ≤ 1000000) : laws_wmAbs.f x = some (absI x) := by
  unfold laws_wmAbs.f absI
  rw [w64 (show -9223372036854775808 ≤ -x by omega) (by omega)]
  split <;> rfl
theorem wmMost_ev (a b c d : Int) (h1 : -2000 ≤ a ∧ a ≤ 2000) (h2 : -2000 ≤ b ∧ b ≤ 2000) (h3 : -2000 ≤ c ∧ c ≤ 2000) (h4 : -2000 ≤ d ∧ d ≤ 2000) : laws_wmMost.f a b c d = some (stepsI a b c d) := by
  unfold laws_wmMost.f stepsI
  rw [w64 (show -9223372036854775808 ≤ a - c by omega) (by omega), w64 (show -9223372036854775808 ≤ b - d by omega) (by omega), wmAbs_ev _ (by omega), wmAbs_ev _ (by omega)]
  simp only [Option.bind_some]
  split <;> (congr 1; omega)
theorem wmCells_ev (l : List S24) (hl : l.length ≤ 1048576) : Ev (fun k => laws_wmCells.f k l l) true := by
  unfold laws_wmCells.f
  refine Ev.ite_pos rfl ?_
  refine eq_loop (F := fun k a b i => laws_wmCells.l0 k a b i) l (by omega) (fun i h0 h1 h2 k => ?_) (fun i h k => ?_) l.length 0 (by omega) (by omega)
  · simp only [laws_wmCells.l0]
    rw [if_pos h1, if_pos h0, if_pos h1, w64 (show -9223372036854775808 ≤ i + 1 by omega) (by omega), if_neg (by simp)]
  · simp only [laws_wmCells.l0]
    rw [if_neg h]
theorem mul_mid (k d : Int) (hk : 0 ≤ k ∧ k ≤ 15) (hd : -4000 ≤ d ∧ d ≤ 4000) : -130000 ≤ 2 * k * d ∧ 2 * k * d ≤ 130000 := by
  have hc : k = 0 ∨ k = 1 ∨ k = 2 ∨ k = 3 ∨ k = 4 ∨ k = 5 ∨ k = 6 ∨ k = 7 ∨ k = 8 ∨ k = 9 ∨ k = 10 ∨ k = 11 ∨ k = 12 ∨ k = 13 ∨ k = 14 ∨ k = 15 := by omega
  rcases hc with rfl | rfl | rfl | rfl | rfl | rfl | rfl | rfl | rfl | rfl | rfl | rfl | rfl | rfl | rfl | rfl <;> omega
theorem err_ev (n i h a b : Int) (hn : 0 ≤ n ∧ n ≤ 15) (hi : 0 ≤ i ∧ i ≤ 15) (hh : -2000 ≤ h ∧ h ≤ 2000) (ha : 0 ≤ a ∧ a ≤ 15) (hb : 0 ≤ b ∧ b ≤ 15) :
    laws_wmAbs.f (wrap64 ((wrap64 ((wrap64 (2 * n)) * (wrap64 (h - a)))) - (wrap64 ((wrap64 (2 * i)) * (wrap64 (b - a)))))) = some (absI (2 * n * (h - a) - 2 * i * (b - a))) := by
  have m1 := mul_mid n (h - a) hn (by omega)
  have m2 := mul_mid i (b - a) hi (by omega)
  rw [w64 (show -9223372036854775808 ≤ 2 * n by omega) (by omega), w64 (show -9223372036854775808 ≤ 2 * i by omega) (by omega), w64 (show -9223372036854775808 ≤ h - a by omega) (by omega), w64 (show -9223372036854775808 ≤ b - a by omega) (by omega), w64 (show -9223372036854775808 ≤ 2 * n * (h - a) by omega) (by omega), w64 (show -9223372036854775808 ≤ 2 * i * (b - a) by omega) (by omega), w64 (by omega) (by omega)]
  exact wmAbs_ev _ (by omega)
theorem cell_ne {a b c d : Int} (h1 : a = c) (h2 : b = d) : ¬ (!(a == c) || !(b == d)) = true := by subst h1; subst h2; simp
theorem law_in (ax ay bx cy : Int) (ha : inC ax ay = true) (hb : inC bx cy = true) : Ev (fun k => laws_FnSkyLegs.j0 k (legOf ax ay bx cy) (legOf bx cy ax ay) (((legOf ax ay bx cy).length : Int) != ((legOf bx cy ax ay).length : Int)) ax ay bx cy) true := by
  have h1 := (inC_iff _ _).1 ha
  have h2 := (inC_iff _ _).1 hb
  obtain ⟨n, hx, hy, hn, hn15, hl, hl2, fx, fy, lx, ly, hw⟩ := legs_are ax ay bx cy ha hb
  rw [hl, hl2]
  simp only [tab_length, bne_self_eq_false]
  refine Ev.succ ?_
  simp only [laws_FnSkyLegs.j0]
  refine Ev.ite_neg (by decide) ?_
  have l1 : ∀ d i : Nat, 1 ≤ i → i + d = n + 1 → Ev (fun k => laws_FnSkyLegs.l1 k (tab (n + 1) (fun k => (⟨hx (k : Int), hy (k : Int)⟩ : S24))) (n : Int) (i : Int) ax ay bx cy) true := by
    intro d
    induction d with
    | zero =>
      intro i hi hd
      refine Ev.succ ?_
      simp only [laws_FnSkyLegs.l1]
      exact Ev.ite_neg (by omega) (Ev.val _)
    | succ d ih =>
      intro i hi hd
      have h := ih (i + 1) (by omega) (by omega)
      rw [show (((i + 1 : Nat)) : Int) = (i : Int) + 1 by omega] at h
      have W := hw (by omega)
      obtain ⟨j, hj⟩ : ∃ j : Nat, j + 1 = i := ⟨i - 1, by omega⟩
      have ej : (i : Int) - 1 = (j : Int) := by omega
      have ei : (i : Int) = (j : Int) + 1 := by omega
      refine Ev.succ ?_
      simp only [laws_FnSkyLegs.l1, tab_length]
      rw [w64 (show -9223372036854775808 ≤ (i : Int) - 1 by omega) (by omega), w64 (show -9223372036854775808 ≤ (i : Int) + 1 by omega) (by omega), ej, rdC _ _ j (by omega), rdC _ _ i (by omega)]
      have sx := W.1.small (j : Int) (by omega) (by omega)
      have sy := W.2.small (j : Int) (by omega) (by omega)
      have sx1 := W.1.small (i : Int) (by omega) (by omega)
      have sy1 := W.2.small (i : Int) (by omega) (by omega)
      have es := ways_step W hn (j : Int) (by omega) (by omega)
      rw [← ei] at es
      have r1 := W.1.err (i : Int) (by omega) (by omega)
      have r2 := W.2.err (i : Int) (by omega) (by omega)
      refine Ev.ite_pos (by omega) (Ev.ite_pos (by omega) (Ev.ite_pos (by omega) (Ev.ite_pos (by omega) (Ev.ite_pos (by omega) ?_))))
      rw [wmMost_ev _ _ _ _ sx sy sx1 sy1, es, err_ev (n : Int) (i : Int) (hx (i : Int)) ax bx (by omega) (by omega) sx1 h1.1 h2.1, err_ev (n : Int) (i : Int) (hy (i : Int)) ay cy (by omega) (by omega) sy1 h1.2 h2.2]
      simp only [Option.bind_some]
      refine Ev.ite_pos trivial (Ev.ite_neg ?_ (Ev.ite_neg ?_ h))
      · have := (absI_le _ _).2 r1; omega
      · have := (absI_le _ _).2 r2; omega
  have tail : Ev (fun k => laws_FnSkyLegs.j2 k (tab (n + 1) (fun k => (⟨hx (k : Int), hy (k : Int)⟩ : S24))) (n : Int) false ax ay bx cy) true := by
    refine Ev.succ ?_
    simp only [laws_FnSkyLegs.j2]
    exact Ev.ite_neg (by decide) (l1 n 1 (by omega) (by omega))
  have e0 : rd_T24 (tab (n + 1) (fun k => (⟨hx (k : Int), hy (k : Int)⟩ : S24))) 0 = ⟨hx 0, hy 0⟩ := rdC (n + 1) (fun k => (⟨hx (k : Int), hy (k : Int)⟩ : S24)) 0 (by omega)
  have en : rd_T24 (tab (n + 1) (fun k => (⟨hx (k : Int), hy (k : Int)⟩ : S24))) (n : Int) = ⟨hx (n : Int), hy (n : Int)⟩ := rdC (n + 1) (fun k => (⟨hx (k : Int), hy (k : Int)⟩ : S24)) n (by omega)
  have go : ∀ d i : Nat, i + d = n + 1 → Ev (fun k => laws_FnSkyLegs.l0 k (tab (n + 1) (fun k => (⟨hx (k : Int), hy (k : Int)⟩ : S24))) (tab (n + 1) (fun k => (⟨hx ((n : Int) - (k : Int)), hy ((n : Int) - (k : Int))⟩ : S24))) (i : Int) ax ay bx cy) true := by
    intro d
    induction d with
    | zero =>
      intro i hd
      refine Ev.succ ?_
      simp only [laws_FnSkyLegs.l0, tab_length]
      rw [show wrap64 ((((n + 1 : Nat)) : Int) - 1) = (n : Int) from by rw [w64 (by omega) (by omega)]; omega, wmMost_ev ax ay bx cy (by omega) (by omega) (by omega) (by omega), hn, e0, en]
      simp only [Option.bind_some]
      have tl : (!(hx (n : Int) == bx) || !(hy (n : Int) == cy)) = false := by rw [lx, ly]; simp
      rw [tl]
      refine Ev.ite_neg (by omega) (Ev.ite_neg (by omega) ?_)
      by_cases hz : (n : Int) > 0
      · exact Ev.ite_pos hz (Ev.ite_pos trivial (Ev.ite_pos (by omega) (Ev.ite_neg (cell_ne fx fy) (Ev.ite_pos (by omega) (Ev.ite_pos (by omega) tail)))))
      · exact Ev.ite_neg hz (Ev.ite_pos (by omega) (Ev.ite_neg (cell_ne fx fy) (Ev.ite_pos (by omega) (Ev.ite_pos (by omega) tail))))
    | succ d ih =>
      intro i hd
      have h := ih (i + 1) (by omega)
      rw [show (((i + 1 : Nat)) : Int) = (i : Int) + 1 by omega] at h
      obtain ⟨j, hj⟩ : ∃ j : Nat, i + j = n := ⟨n - i, by omega⟩
      refine Ev.succ ?_
      simp only [laws_FnSkyLegs.l0, tab_length]
      rw [show wrap64 ((((n + 1 : Nat)) : Int) - 1) = (n : Int) from by rw [w64 (by omega) (by omega)]; omega, show wrap64 ((n : Int) - (i : Int)) = (j : Int) from by rw [w64 (by omega) (by omega)]; omega, w64 (show -9223372036854775808 ≤ (i : Int) + 1 by omega) (by omega), rdC _ _ i (by omega), rdC _ _ j (by omega)]
      refine Ev.ite_pos (by omega) (Ev.ite_pos (by omega) (Ev.ite_pos (by omega) (Ev.ite_pos (by omega) (Ev.ite_neg (cell_ne ?_ ?_) h))))
      · show hx (i : Int) = hx ((n : Int) - (j : Int))
        rw [show (n : Int) - (j : Int) = (i : Int) by omega]
      · show hy (i : Int) = hy ((n : Int) - (j : Int))
        rw [show (n : Int) - (j : Int) = (i : Int) by omega]
  exact go (n + 1) 0 (by omega)
theorem law_out (ax ay bx cy : Int) (h : ¬ (inC ax ay = true ∧ inC bx cy = true)) : Ev (fun k => laws_FnSkyLegs.j0 k (legOf ax ay bx cy) (legOf bx cy ax ay) (((legOf ax ay bx cy).length : Int) != ((legOf bx cy ax ay).length : Int)) ax ay bx cy) true := by
  have e1 : legOf ax ay bx cy = [] := by unfold legOf; exact if_neg h
  have e2 : legOf bx cy ax ay = [] := by unfold legOf; exact if_neg (fun q => h ⟨q.2, q.1⟩)
  rw [e1, e2]
  simp only [inC_iff] at h
  refine Ev.succ ?_
  simp only [laws_FnSkyLegs.j0, bne_self_eq_false]
  refine Ev.ite_neg (by decide) (Ev.succ ?_)
  simp only [laws_FnSkyLegs.l0]
  refine Ev.ite_neg (by simp) (Ev.ite_pos rfl ?_)
  refine Ev.const ?_
  by_cases c1 : ax < 0
  · rw [if_pos c1]
  rw [if_neg c1]
  by_cases c2 : ay < 0
  · rw [if_pos c2]
  rw [if_neg c2]
  by_cases c3 : bx < 0
  · rw [if_pos c3]
  rw [if_neg c3]
  by_cases c4 : cy < 0
  · rw [if_pos c4]
  rw [if_neg c4]
  by_cases c5 : ax ≥ 16
  · rw [if_pos c5]
  rw [if_neg c5]
  by_cases c6 : ay ≥ 16
  · rw [if_pos c6]
  rw [if_neg c6]
  by_cases c7 : bx ≥ 16
  · rw [if_pos c7]
  rw [if_neg c7]
  rw [decide_eq_true (show cy ≥ 16 by omega)]
theorem FnSkyLegs : ∀ (l0 : List Int), l0.length ≤ maxLen → l0.length * 1 ≤ 140737488351232 → (∀ x ∈ l0, (Lit.int .u8 x).wf = true) → ∃ k, laws_FnSkyLegs.f k l0 = some true := by
  intro l0 _ _ hl
  refine Ev.rounds (r := true) ?_
  unfold laws_FnSkyLegs.f
  by_cases hlong : (l0.length : Int) > 1048576
  · exact Ev.ite_pos hlong (Ev.val _)
  refine Ev.ite_neg hlong ?_
  obtain ⟨ax, ay, bx, cy, hd⟩ := draw_ev l0 hl
  have hlen := legOf_length ax ay bx cy
  refine Ev.bind hd (Ev.bind (impl_skyleg ax ay bx cy) (Ev.bind (impl_skyleg bx cy ax ay) (Ev.bind (spec_leg ax ay bx cy) (Ev.bind (wmCells_ev _ (by omega)) (Ev.ite_pos rfl ?_)))))
  by_cases hin : inC ax ay = true ∧ inC bx cy = true
  · exact law_in ax ay bx cy hin.1 hin.2
  · exact law_out ax ay bx cy hin
end Go.Proofs.Ytaeichaofhcheaa.Pure
