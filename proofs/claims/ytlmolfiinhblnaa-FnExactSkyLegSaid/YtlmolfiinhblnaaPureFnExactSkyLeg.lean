/-
  The law FnExactSkyLeg over numbers and lists: both tell the same cells from one cell to another.
-/
import Derived.Test.YtlmolfiinhblnaaSayFnExactSkyLeg
import Derived.Test.YtlmolfiinhblnaaStdFnExactSkyLeg
namespace Go.Proofs.Ytlmolfiinhblnaa.Pure
open Go.RowKit Go.Proofs.Ytlmolfiinhblnaa.QFnExactSkyLeg Go.Proofs.YtlmolfiinhblnaaW.PrintWords Go.Proofs.Ytlmolfiinhblnaa.Kit Go.Proofs.Ytlmolfiinhblnaa.StdFnExactSkyLeg Go.Proofs.Ytlmolfiinhblnaa.SayFnExactSkyLeg
set_option linter.unusedSimpArgs false
set_option linter.unusedVariables false
/-- A row told place by place. -/
def tab {α : Type} (n : Nat) (g : Nat → α) : List α := (List.range n).map g
theorem tab_length {α : Type} (n : Nat) (g : Nat → α) : (tab n g).length = n := by simp [tab]
theorem tab_get {α : Type} (n : Nat) (g : Nat → α) (i : Nat) (hi : i < n) : (tab n g)[i]? = some (g i) := by simp [tab, hi]
theorem tab_congr {α : Type} (n : Nat) (g g' : Nat → α) (hg : ∀ j, j < n → g j = g' j) : tab n g = tab n g' := by
  apply List.ext_getElem?
  intro j
  rcases Nat.lt_or_ge j n with hj | hj
  · rw [tab_get n g j hj, tab_get n g' j hj, hg j hj]
  · rw [List.getElem?_eq_none (by rw [tab_length]; omega), List.getElem?_eq_none (by rw [tab_length]; omega)]
theorem tab_set {α : Type} (n : Nat) (g : Nat → α) (i : Nat) (v : α) (hi : i < n) : (tab n g).set i v = tab n (fun j => if j = i then v else g j) := by
  apply List.ext_getElem?
  intro j
  rcases Nat.lt_or_ge j n with hj | hj
  · rw [tab_get n _ j hj]
    by_cases e : j = i
    · subst e
      rw [List.getElem?_set_self (by rw [tab_length]; omega), if_pos rfl]
    · rw [List.getElem?_set_ne (Ne.symm e), tab_get n g j hj, if_neg e]
  · rw [List.getElem?_eq_none (by rw [List.length_set, tab_length]; omega), List.getElem?_eq_none (by rw [tab_length]; omega)]
theorem tab_snoc {α : Type} (n : Nat) (g : Nat → α) : tab n g ++ [g n] = tab (n + 1) g := by simp [tab, List.range_succ]
/-- How far k of n steps lead along d, halves upward. -/
def partD (d k n : Int) : Int := (2 * k * d + n) / (2 * n)
theorem t_parts (v m : Int) (hm : 0 < m) : m * Int.tdiv v m + Int.tmod v m = v ∧ (0 ≤ v → 0 ≤ Int.tmod v m ∧ Int.tmod v m < m) ∧ (v < 0 → -m < Int.tmod v m ∧ Int.tmod v m ≤ 0) := by
  refine ⟨Int.mul_tdiv_add_tmod v m, fun h => ⟨Int.tmod_nonneg m h, Int.tmod_lt_of_pos v hm⟩, fun h => ?_⟩
  have e : Int.tmod v m = -(Int.tmod (-v) m) := by rw [Int.neg_tmod]; omega
  have h1 := Int.tmod_nonneg m (show 0 ≤ -v by omega)
  have h2 := Int.tmod_lt_of_pos (-v) hm
  omega
theorem spec_floor (v n : Int) (hn : 1 ≤ n ∧ n ≤ 15) (hv : -1000 ≤ v ∧ v ≤ 1000) :
    (if v < 0 then (if wrap64 (wrap64 (wrap64 (Int.tdiv v (2 * n)) * 2) * n) = v then some (wrap64 (Int.tdiv v (2 * n))) else some (wrap64 (wrap64 (Int.tdiv v (2 * n)) - 1))) else some (wrap64 (Int.tdiv v (2 * n)))) = some (v / (2 * n)) := by
  obtain ⟨h1, h2, h3⟩ := t_parts v (2 * n) (by omega)
  generalize Int.tdiv v (2 * n) = q at h1 ⊢
  generalize Int.tmod v (2 * n) = r at h1 h2 h3
  have hc : n = 1 ∨ n = 2 ∨ n = 3 ∨ n = 4 ∨ n = 5 ∨ n = 6 ∨ n = 7 ∨ n = 8 ∨ n = 9 ∨ n = 10 ∨ n = 11 ∨ n = 12 ∨ n = 13 ∨ n = 14 ∨ n = 15 := by omega
  rcases hc with rfl | rfl | rfl | rfl | rfl | rfl | rfl | rfl | rfl | rfl | rfl | rfl | rfl | rfl | rfl <;>
  · rw [w64 (show -9223372036854775808 ≤ q by omega) (by omega), w64 (show -9223372036854775808 ≤ q * 2 by omega) (by omega), w64 (show -9223372036854775808 ≤ q - 1 by omega) (by omega)]
    rw [w64 (by omega) (by omega)]
    by_cases hneg : v < 0
    · rw [if_pos hneg]
      split <;> (congr 1; omega)
    · rw [if_neg hneg]
      congr 1
      omega
theorem impl_floor (v n : Int) (hn : 1 ≤ n ∧ n ≤ 15) (hv : -1000 ≤ v ∧ v ≤ 1000) : impl_floorDiv.f v (2 * n) = some (v / (2 * n)) := by
  unfold impl_floorDiv.f
  obtain ⟨h1, h2, h3⟩ := t_parts v (2 * n) (by omega)
  generalize Int.tdiv v (2 * n) = q at h1 ⊢
  generalize Int.tmod v (2 * n) = r at h1 h2 h3 ⊢
  have hd : (decide (v < 0) != decide (2 * n < 0)) = decide (v < 0) := by rw [show decide (2 * n < 0) = false from decide_eq_false (by omega)]; simp
  rw [if_neg (show ¬ 2 * n = 0 by omega), hd]
  have hc : n = 1 ∨ n = 2 ∨ n = 3 ∨ n = 4 ∨ n = 5 ∨ n = 6 ∨ n = 7 ∨ n = 8 ∨ n = 9 ∨ n = 10 ∨ n = 11 ∨ n = 12 ∨ n = 13 ∨ n = 14 ∨ n = 15 := by omega
  rcases hc with rfl | rfl | rfl | rfl | rfl | rfl | rfl | rfl | rfl | rfl | rfl | rfl | rfl | rfl | rfl <;>
  · rw [w64 (show -9223372036854775808 ≤ q by omega) (by omega), w64 (show -9223372036854775808 ≤ q - 1 by omega) (by omega)]
    by_cases hr : r = 0
    · rw [if_pos hr]
      congr 1
      omega
    · rw [if_neg hr]
      by_cases hneg : v < 0
      · rw [if_pos (decide_eq_true hneg)]
        congr 1
        omega
      · rw [if_neg (by rw [decide_eq_false hneg]; decide)]
        congr 1
        omega
theorem mul_small (k d : Int) (hk : 0 ≤ k ∧ k ≤ 15) (hd : -15 ≤ d ∧ d ≤ 15) : -450 ≤ 2 * k * d ∧ 2 * k * d ≤ 450 := by
  have hc : k = 0 ∨ k = 1 ∨ k = 2 ∨ k = 3 ∨ k = 4 ∨ k = 5 ∨ k = 6 ∨ k = 7 ∨ k = 8 ∨ k = 9 ∨ k = 10 ∨ k = 11 ∨ k = 12 ∨ k = 13 ∨ k = 14 ∨ k = 15 := by omega
  rcases hc with rfl | rfl | rfl | rfl | rfl | rfl | rfl | rfl | rfl | rfl | rfl | rfl | rfl | rfl | rfl | rfl <;> omega
theorem part_small (v n : Int) (hn : 1 ≤ n ∧ n ≤ 15) (hv : -1000 ≤ v ∧ v ≤ 1000) : -1000 ≤ v / (2 * n) ∧ v / (2 * n) ≤ 1000 := by
  have hc : n = 1 ∨ n = 2 ∨ n = 3 ∨ n = 4 ∨ n = 5 ∨ n = 6 ∨ n = 7 ∨ n = 8 ∨ n = 9 ∨ n = 10 ∨ n = 11 ∨ n = 12 ∨ n = 13 ∨ n = 14 ∨ n = 15 := by omega
  rcases hc with rfl | rfl | rfl | rfl | rfl | rfl | rfl | rfl | rfl | rfl | rfl | rfl | rfl | rfl | rfl <;> omega
theorem part_range (d k n : Int) (hk : 0 ≤ k ∧ k ≤ 15) (hd : -15 ≤ d ∧ d ≤ 15) (hn : 1 ≤ n ∧ n ≤ 15) : -1000 ≤ partD d k n ∧ partD d k n ≤ 1000 := by
  have := mul_small k d hk hd
  exact part_small _ n hn (by omega)
theorem part_zero (d n : Int) (hn : 0 ≤ n) : partD d 0 n = 0 := by
  unfold partD
  rw [show 2 * 0 * d + n = n by rw [Int.mul_zero, Int.zero_mul]; omega]
  rcases Int.lt_or_eq_of_le hn with h | h
  · exact Int.ediv_eq_zero_of_lt hn (by omega)
  · rw [← h]; rfl
theorem spec_part (d k n : Int) (hk : 0 ≤ k ∧ k ≤ 15) (hd : -15 ≤ d ∧ d ≤ 15) (hn : 1 ≤ n ∧ n ≤ 15) : spec_l6Part.f d k n = some (partD d k n) := by
  have hm := mul_small k d hk hd
  unfold spec_l6Part.f partD
  rw [w64 (show -9223372036854775808 ≤ 2 * k by omega) (by omega), w64 (show -9223372036854775808 ≤ 2 * k * d by omega) (by omega), w64 (show -9223372036854775808 ≤ 2 * n by omega) (by omega), w64 (show -9223372036854775808 ≤ 2 * k * d + n by omega) (by omega), if_neg (show ¬ 2 * n = 0 by omega)]
  exact spec_floor _ n hn (by omega)
theorem impl_part (d k n : Int) (hk : 0 ≤ k ∧ k ≤ 15) (hd : -15 ≤ d ∧ d ≤ 15) (hn : 1 ≤ n ∧ n ≤ 15) : impl_floorDiv.f (wrap64 ((wrap64 ((wrap64 (2 * k)) * (wrap64 d))) + n)) (wrap64 (2 * n)) = some (partD d k n) := by
  have hm := mul_small k d hk hd
  unfold partD
  rw [w64 (show -9223372036854775808 ≤ 2 * k by omega) (by omega), w64 (show -9223372036854775808 ≤ d by omega) (by omega), w64 (show -9223372036854775808 ≤ 2 * k * d by omega) (by omega), w64 (show -9223372036854775808 ≤ 2 * n by omega) (by omega), w64 (show -9223372036854775808 ≤ 2 * k * d + n by omega) (by omega)]
  exact impl_floor _ n hn (by omega)
def absI (x : Int) : Int := if x < 0 then -x else x
def stepsI (ax ay bx cy : Int) : Int := max (absI (ax - bx)) (absI (ay - cy))
def cellX (ax bx n : Int) (k : Nat) : Int := ax + partD (bx - ax) (k : Int) n
def inC (x y : Int) : Bool := decide ((0 ≤ x ∧ x ≤ 15) ∧ 0 ≤ y ∧ y ≤ 15)
theorem inC_iff (x y : Int) : inC x y = true ↔ ((0 ≤ x ∧ x ≤ 15) ∧ 0 ≤ y ∧ y ≤ 15) := decide_eq_true_iff
theorem spec_inside (x y : Int) : spec_l6Inside.f x y = some (inC x y) := by
  unfold spec_l6Inside.f spec_l1In.f inC
  by_cases h0 : x ≥ 0 <;> by_cases h1 : x ≤ 15 <;> by_cases h2 : y ≥ 0 <;> simp [h0, h1, h2]
theorem spec_steps (ax ay bx cy : Int) (ha : inC ax ay = true) (hb : inC bx cy = true) : spec_l6Steps.f ax ay bx cy = some (stepsI ax ay bx cy) := by
  have h1 := (inC_iff _ _).1 ha
  have h2 := (inC_iff _ _).1 hb
  unfold spec_l6Steps.f spec_l6Abs.f stepsI absI
  rw [w64 (show -9223372036854775808 ≤ ax - bx by omega) (by omega), w64 (show -9223372036854775808 ≤ ay - cy by omega) (by omega), w64 (show -9223372036854775808 ≤ -(ax - bx) by omega) (by omega), w64 (show -9223372036854775808 ≤ -(ay - cy) by omega) (by omega)]
  by_cases c1 : ax - bx < 0
  · by_cases c2 : ay - cy < 0
    · simp only [if_pos c1, if_pos c2, Option.bind_some]
      split <;> (congr 1; omega)
    · simp only [if_pos c1, if_neg c2, Option.bind_some]
      split <;> (congr 1; omega)
  · by_cases c2 : ay - cy < 0
    · simp only [if_neg c1, if_pos c2, Option.bind_some]
      split <;> (congr 1; omega)
    · simp only [if_neg c1, if_neg c2, Option.bind_some]
      split <;> (congr 1; omega)
theorem impl_distI (a b : Int) (ha : 0 ≤ a ∧ a ≤ 15) (hb : 0 ≤ b ∧ b ≤ 15) : impl_dist.f a b = some (absI (a - b)) := by
  unfold impl_dist.f absI
  by_cases h : a > b
  · rw [if_pos h, if_neg (by omega), w64 (by omega) (by omega)]
  · rw [if_neg h, w64 (by omega) (by omega)]
    split <;> (congr 1; omega)
theorem steps_range {ax ay bx cy : Int} (ha : inC ax ay = true) (hb : inC bx cy = true) : 0 ≤ stepsI ax ay bx cy ∧ stepsI ax ay bx cy ≤ 15 := by
  have h1 := (inC_iff _ _).1 ha
  have h2 := (inC_iff _ _).1 hb
  unfold stepsI absI
  split <;> split <;> omega
theorem steps_swap (ax ay bx cy : Int) : stepsI bx cy ax ay = stepsI ax ay bx cy := by
  unfold stepsI absI
  split <;> split <;> split <;> split <;> omega
/-- The lesser first. -/
def turnC (ax ay bx cy : Int) : Bool := decide (bx < ax ∨ bx = ax ∧ cy < ay)
def cells (ax ay bx cy : Int) (n : Nat) : List S26 := tab (n + 1) (fun k => (⟨cellX ax bx (n : Int) k, cellX ay cy (n : Int) k⟩ : S26))
def pairs (ax ay bx cy : Int) (n : Nat) : List S38 := tab (n + 1) (fun k => (⟨cellX ax bx (n : Int) k, cellX ay cy (n : Int) k⟩ : S38))
theorem rd26 (n : Nat) (g : Nat → S26) (i : Nat) (hi : i < n) : rd_T26 (tab n g) (i : Int) = g i := by
  show (tab n g).getD ((i : Int)).toNat _ = g i
  rw [Int.toNat_natCast, List.getD_eq_getElem?_getD, tab_get n g i hi]; rfl
theorem rd38 (n : Nat) (g : Nat → S38) (i : Nat) (hi : i < n) : rd_T38 (tab n g) (i : Int) = g i := by
  show (tab n g).getD ((i : Int)).toNat _ = g i
  rw [Int.toNat_natCast, List.getD_eq_getElem?_getD, tab_get n g i hi]; rfl
def back {α : Type} (n : Nat) (g : Nat → α) : List α := tab n (fun m => g (n - 1 - m))
/-- From the lesser end, step by step. -/
theorem spec_forward (ax ay bx cy : Int) (ha : inC ax ay = true) (hb : inC bx cy = true) (n : Nat) (hn : stepsI ax ay bx cy = (n : Int)) :
    Ev (fun k => spec_SkyLeg.l1 k [(⟨ax, ay⟩ : S26)] (n : Int) 1 ax ay bx cy) (cells ax ay bx cy n) := by
  have h1 := (inC_iff _ _).1 ha
  have h2 := (inC_iff _ _).1 hb
  have hr := steps_range ha hb
  have go : ∀ d i : Nat, i + d = n + 1 → 1 ≤ i → Ev (fun k => spec_SkyLeg.l1 k (tab i (fun k => (⟨cellX ax bx (n : Int) k, cellX ay cy (n : Int) k⟩ : S26))) (n : Int) (i : Int) ax ay bx cy) (cells ax ay bx cy n) := by
    intro d
    induction d with
    | zero =>
      intro i hi h1i
      refine Ev.succ ?_
      simp only [spec_SkyLeg.l1]
      refine Ev.ite_neg (by omega) (Ev.cast (Ev.val _) ?_)
      rw [show i = n + 1 by omega]
      rfl
    | succ d ih =>
      intro i hi h1i
      have h := ih (i + 1) (by omega) (by omega)
      rw [show (((i + 1 : Nat) : Int)) = (i : Int) + 1 by omega] at h
      have p1 := part_range (bx - ax) (i : Int) (n : Int) (by omega) (by omega) (by omega)
      have p2 := part_range (cy - ay) (i : Int) (n : Int) (by omega) (by omega) (by omega)
      refine Ev.succ ?_
      simp only [spec_SkyLeg.l1]
      rw [w64 (show -9223372036854775808 ≤ bx - ax by omega) (by omega), w64 (show -9223372036854775808 ≤ cy - ay by omega) (by omega), spec_part (bx - ax) (i : Int) (n : Int) (by omega) (by omega) (by omega), spec_part (cy - ay) (i : Int) (n : Int) (by omega) (by omega) (by omega)]
      simp only [Option.bind_some, tab_length]
      rw [w64 (show -9223372036854775808 ≤ ax + partD (bx - ax) (i : Int) (n : Int) by omega) (by omega), w64 (show -9223372036854775808 ≤ ay + partD (cy - ay) (i : Int) (n : Int) by omega) (by omega), w64 (show -9223372036854775808 ≤ (i : Int) + 1 by omega) (by omega)]
      refine Ev.ite_pos (by omega) (Ev.ite_pos (by omega) ?_)
      rw [← tab_snoc] at h
      exact h
  have h := go n 1 (by omega) (by omega)
  rw [show tab 1 (fun k => (⟨cellX ax bx (n : Int) k, cellX ay cy (n : Int) k⟩ : S26)) = [(⟨ax, ay⟩ : S26)] from by
    show [(⟨cellX ax bx (n : Int) 0, cellX ay cy (n : Int) 0⟩ : S26)] = _
    unfold cellX
    rw [show (((0 : Nat) : Int)) = 0 from rfl, part_zero _ _ (by omega), part_zero _ _ (by omega), Int.add_zero, Int.add_zero]] at h
  exact h
def legOf (ax ay bx cy : Int) : List S26 :=
  if inC ax ay = true ∧ inC bx cy = true then
    (if turnC ax ay bx cy = true then back ((stepsI ax ay bx cy).toNat + 1) (fun k => (⟨cellX bx ax (stepsI ax ay bx cy) k, cellX cy ay (stepsI ax ay bx cy) k⟩ : S26)) else cells ax ay bx cy (stepsI ax ay bx cy).toNat)
  else []
theorem legOf_length (ax ay bx cy : Int) : (legOf ax ay bx cy).length ≤ 16 := by
  unfold legOf
  split
  · rename_i h
    have := steps_range h.1 h.2
    split
    · unfold back; rw [tab_length]; omega
    · unfold cells; rw [tab_length]; omega
  · exact Nat.zero_le _
theorem spec_leg (ax ay bx cy : Int) : Ev (fun k => spec_SkyLeg.f k ax ay bx cy) (legOf ax ay bx cy) := by
  have bad : ∀ x5 ax ay bx cy, Ev (fun k => spec_SkyLeg.j0 k x5 true ax ay bx cy) x5 := fun x5 ax ay bx cy => Ev.step (fun k => (by simp only [spec_SkyLeg.j0]; exact if_pos trivial)) (Ev.val _)
  have turn0 : ∀ (ax ay bx cy : Int) r, Ev (fun k => spec_SkyLeg.j1 k [] (turnC ax ay bx cy) ax ay bx cy) r → Ev (fun k => spec_SkyLeg.j0 k [] false ax ay bx cy) r := by
    intro ax ay bx cy r h
    refine Ev.succ ?_
    simp only [spec_SkyLeg.j0]
    refine Ev.ite_neg (by decide) ?_
    unfold turnC at h
    by_cases c1 : bx < ax
    · rw [decide_eq_true (Or.inl c1)] at h
      exact Ev.ite_pos c1 h
    · refine Ev.ite_neg c1 ?_
      by_cases c2 : bx = ax
      · refine Ev.ite_pos c2 ?_
        rw [show decide (bx < ax ∨ bx = ax ∧ cy < ay) = decide (cy < ay) from by by_cases c3 : cy < ay <;> simp [c1, c2, c3]] at h
        exact h
      · rw [decide_eq_false (by omega)] at h
        exact Ev.ite_neg c2 h
  have fwd : ∀ (ax ay bx cy : Int), inC ax ay = true → inC bx cy = true → turnC ax ay bx cy = false → Ev (fun k => spec_SkyLeg.f k ax ay bx cy) (cells ax ay bx cy (stepsI ax ay bx cy).toNat) := by
    intro ax ay bx cy ha hb ht
    have hr := steps_range ha hb
    refine Ev.succ ?_
    simp only [spec_SkyLeg.f, spec_inside, Option.bind_some, ha, hb, if_true, Bool.not_true]
    refine turn0 _ _ _ _ _ ?_
    rw [ht]
    refine Ev.succ ?_
    simp only [spec_SkyLeg.j1, spec_steps ax ay bx cy ha hb, Option.bind_some, List.nil_append]
    refine Ev.ite_neg (by decide) (Ev.ite_pos (by simp only [List.length_nil]; omega) ?_)
    have h := spec_forward ax ay bx cy ha hb (stepsI ax ay bx cy).toNat (by omega)
    rw [show (((stepsI ax ay bx cy).toNat : Nat) : Int) = stepsI ax ay bx cy by omega] at h
    exact h
  unfold legOf
  by_cases hin : inC ax ay = true ∧ inC bx cy = true
  · rw [if_pos hin]
    obtain ⟨ha, hb⟩ := hin
    by_cases ht : turnC ax ay bx cy = true
    · rw [if_pos ht]
      have hr := steps_range ha hb
      have ht' : turnC bx cy ax ay = false := by
        unfold turnC at ht ⊢
        have := of_decide_eq_true ht
        exact decide_eq_false (by omega)
      have hf := fwd bx cy ax ay hb ha ht'
      rw [steps_swap ax ay bx cy] at hf
      obtain ⟨n, hn⟩ : ∃ n : Nat, stepsI ax ay bx cy = (n : Int) := ⟨(stepsI ax ay bx cy).toNat, by omega⟩
      rw [hn, Int.toNat_natCast] at hf ⊢
      refine Ev.succ ?_
      simp only [spec_SkyLeg.f, spec_inside, Option.bind_some, ha, hb, if_true, Bool.not_true]
      refine turn0 _ _ _ _ _ ?_
      rw [ht]
      refine Ev.succ ?_
      simp only [spec_SkyLeg.j1]
      refine Ev.ite_pos trivial (Ev.bind hf ?_)
      have go : ∀ i m : Nat, m + i = n + 1 → Ev (fun k => spec_SkyLeg.l0 k (tab m (fun j => (⟨cellX bx ax (n : Int) (n - j), cellX cy ay (n : Int) (n - j)⟩ : S26))) (cells bx cy ax ay n) ((i : Int) - 1)) (back (n + 1) (fun k => (⟨cellX bx ax (n : Int) k, cellX cy ay (n : Int) k⟩ : S26))) := by
        intro i
        induction i with
        | zero =>
          intro m hm
          refine Ev.succ ?_
          simp only [spec_SkyLeg.l0]
          refine Ev.ite_neg (by omega) (Ev.cast (Ev.val _) ?_)
          rw [show m = n + 1 by omega]
          rfl
        | succ i ih =>
          intro m hm
          have h := ih (m + 1) (by omega)
          refine Ev.succ ?_
          simp only [spec_SkyLeg.l0]
          rw [show (((i + 1 : Nat) : Int)) - 1 = (i : Int) by omega, w64 (show -9223372036854775808 ≤ (i : Int) - 1 by omega) (by omega)]
          refine Ev.ite_pos (by omega) (Ev.ite_pos (by omega) (Ev.ite_pos (by unfold cells; rw [tab_length]; omega) (Ev.ite_pos (by rw [tab_length]; omega) ?_)))
          rw [show rd_T26 (cells bx cy ax ay n) (i : Int) = (⟨cellX bx ax (n : Int) i, cellX cy ay (n : Int) i⟩ : S26) from rd26 _ _ i (by omega)]
          rw [← tab_snoc, show n - m = i by omega] at h
          exact h
      have h := go (n + 1) 0 (by omega)
      rw [show wrap64 (((cells bx cy ax ay n).length : Int) - 1) = ((n + 1 : Nat) : Int) - 1 from by unfold cells; rw [tab_length]; exact w64 (by omega) (by omega)]
      exact h
    · rw [if_neg ht]
      exact fwd ax ay bx cy ha hb (Bool.eq_false_iff.2 ht)
  · rw [if_neg hin]
    refine Ev.succ ?_
    simp only [spec_SkyLeg.f, spec_inside, Option.bind_some]
    by_cases ha : inC ax ay = true
    · refine Ev.ite_pos ha ?_
      rw [Bool.eq_false_iff.2 (fun hb => hin ⟨ha, hb⟩)]
      exact bad _ _ _ _ _
    · exact Ev.ite_neg ha (bad _ _ _ _ _)
/-! #### the program's own -/
theorem tab_setInt {α : Type} (n : Nat) (g : Nat → α) (i : Nat) (v : α) (hi : i < n) : (tab n g).set i v = tab n (fun j => if j = i then v else g j) := tab_set n g i v hi
theorem reverse_ev (n : Nat) (g : Nat → S38) (hn : 1 ≤ n) (hn2 : n ≤ 1048576) : Ev (fun k => slices_Reverse_2_int_2_int.f k (tab n g)) (back n g) := by
  unfold slices_Reverse_2_int_2_int.f
  rw [tab_length, w64 (show -9223372036854775808 ≤ (n : Int) - 1 by omega) (by omega)]
  have go : ∀ d i : Nat, 2 * i + d = n ∨ 2 * i + d = n + 1 → i ≤ n → (d = 0 → n ≤ 2 * i + 1) → Ev (fun k => slices_Reverse_2_int_2_int.l0 k (tab n (fun m => if m < i ∨ n - 1 - m < i then g (n - 1 - m) else g m)) (i : Int) ((n : Int) - 1 - i)) (back n g) := by
    intro d
    induction d using Nat.strongRecOn with
    | ind d ih =>
      intro i hd hi h0
      refine Ev.succ ?_
      simp only [slices_Reverse_2_int_2_int.l0]
      by_cases hlt : 2 * i + 1 < n
      · have h := ih (d - 2) (by omega) (i + 1) (by omega) (by omega) (by omega)
        obtain ⟨j, hj⟩ : ∃ j : Nat, j = n - 1 - i := ⟨_, rfl⟩
        have e : (n : Int) - 1 - (i : Int) = (j : Int) := by omega
        rw [e]
        rw [show (n : Int) - 1 - (((i + 1 : Nat)) : Int) = (j : Int) - 1 by omega, show (((i + 1 : Nat)) : Int) = (i : Int) + 1 by omega] at h
        simp only [Int.toNat_natCast, tab_length]
        rw [w64 (show -9223372036854775808 ≤ (i : Int) + 1 by omega) (by omega), w64 (show -9223372036854775808 ≤ (j : Int) - 1 by omega) (by omega)]
        refine Ev.ite_pos (by omega) (Ev.ite_pos (by omega) (Ev.ite_pos (by omega) (Ev.ite_pos (by omega) (Ev.ite_pos (by omega) ?_))))
        rw [rd38 n _ j (by omega), rd38 n _ i (by omega), tab_set n _ i _ (by omega), tab_set n _ j _ (by omega)]
        rw [show tab n (fun m => if m = j then (⟨(if i < i ∨ n - 1 - i < i then g (n - 1 - i) else g i).f0, (if i < i ∨ n - 1 - i < i then g (n - 1 - i) else g i).f1⟩ : S38) else if m = i then (⟨(if j < i ∨ n - 1 - j < i then g (n - 1 - j) else g j).f0, (if j < i ∨ n - 1 - j < i then g (n - 1 - j) else g j).f1⟩ : S38) else if m < i ∨ n - 1 - m < i then g (n - 1 - m) else g m) = tab n (fun m => if m < i + 1 ∨ n - 1 - m < i + 1 then g (n - 1 - m) else g m) from by
          refine tab_congr n _ _ (fun m hm => ?_)
          by_cases c1 : m = j
          · rw [if_pos c1, if_neg (by omega), if_pos (by omega), show n - 1 - m = i by omega]
          · rw [if_neg c1]
            by_cases c2 : m = i
            · rw [if_pos c2, if_neg (by omega), if_pos (by omega), show n - 1 - m = j by omega]
            · rw [if_neg c2]
              by_cases c3 : m < i ∨ n - 1 - m < i
              · rw [if_pos c3, if_pos (by omega)]
              · rw [if_neg c3, if_neg (by omega)]]
        exact h
      · refine Ev.ite_neg (by omega) (Ev.cast (Ev.val _) ?_)
        unfold back
        refine tab_congr n _ _ (fun m hm => ?_)
        by_cases c : m < i ∨ n - 1 - m < i
        · rw [if_pos c]
        · rw [if_neg c, show n - 1 - m = m by omega]
  have h := go n 0 (by omega) (by omega) (by omega)
  rw [show tab n (fun m => if m < 0 ∨ n - 1 - m < 0 then g (n - 1 - m) else g m) = tab n g from tab_congr n _ _ (fun m hm => if_neg (by omega)), show (n : Int) - 1 - ((0 : Nat) : Int) = (n : Int) - 1 by omega] at h
  exact h
theorem mx_max (a b : Int) : mx a b = max a b := by
  unfold mx; split <;> omega
theorem leg_last (ax ay bx cy : Int) (x9 : Bool) (n : Nat) (m : Nat) (hm : 1 ≤ m) (hm2 : m ≤ 16) :
    Ev (fun k => if x9 = true then ((slices_Reverse_2_int_2_int.f k (tab m (fun k => (⟨cellX ax bx (n : Int) k, cellX ay cy (n : Int) k⟩ : S38)))).bind fun t => some t) else some (tab m (fun k => (⟨cellX ax bx (n : Int) k, cellX ay cy (n : Int) k⟩ : S38))))
      (if x9 = true then back m (fun k => (⟨cellX ax bx (n : Int) k, cellX ay cy (n : Int) k⟩ : S38)) else tab m (fun k => (⟨cellX ax bx (n : Int) k, cellX ay cy (n : Int) k⟩ : S38))) := by
  cases x9 with
  | true => exact Ev.ite_pos rfl (Ev.cast (Ev.bind (reverse_ev m _ hm (by omega)) (Ev.val _)) (if_pos rfl).symm)
  | false => exact Ev.ite_neg (by decide) (Ev.cast (Ev.val _) (if_neg (by decide)).symm)
theorem impl_j1 (ax ay bx cy : Int) (x9 : Bool) (ha : inC ax ay = true) (hb : inC bx cy = true) (n : Nat) (hn : stepsI ax ay bx cy = (n : Int)) :
    Ev (fun k => impl_leg.j1 k ax ay bx cy x9) (if x9 = true then back (n + 1) (fun k => (⟨cellX ax bx (n : Int) k, cellX ay cy (n : Int) k⟩ : S38)) else tab (n + 1) (fun k => (⟨cellX ax bx (n : Int) k, cellX ay cy (n : Int) k⟩ : S38))) := by
  have h1 := (inC_iff _ _).1 ha
  have h2 := (inC_iff _ _).1 hb
  have hr := steps_range ha hb
  refine Ev.succ ?_
  simp only [impl_leg.j1, impl_distI ax bx h1.1 h2.1, impl_distI ay cy h1.2 h2.2, Option.bind_some, mx_max]
  rw [show max (absI (ax - bx)) (absI (ay - cy)) = (n : Int) from hn]
  have go : ∀ d i : Nat, i + d = n + 1 → (n = 0 → i = 0) → Ev (fun k => impl_leg.l0 k ax ay bx cy x9 (n : Int) (tab i (fun k => (⟨cellX ax bx (n : Int) k, cellX ay cy (n : Int) k⟩ : S38))) (i : Int)) (if x9 = true then back (n + 1) (fun k => (⟨cellX ax bx (n : Int) k, cellX ay cy (n : Int) k⟩ : S38)) else tab (n + 1) (fun k => (⟨cellX ax bx (n : Int) k, cellX ay cy (n : Int) k⟩ : S38))) := by
    intro d
    induction d with
    | zero =>
      intro i hi h0
      refine Ev.succ ?_
      simp only [impl_leg.l0]
      refine Ev.ite_neg (by omega) ?_
      rw [show i = n + 1 by omega]
      exact leg_last ax ay bx cy x9 n (n + 1) (by omega) (by omega)
    | succ d ih =>
      intro i hi h0
      refine Ev.succ ?_
      simp only [impl_leg.l0, tab_length, Option.bind_some]
      refine Ev.ite_pos (by omega) ?_
      by_cases hz : n = 0
      · refine Ev.ite_pos (by omega) (Ev.ite_pos (by omega) ?_)
        have hi0 := h0 hz
        subst hi0
        have e : tab 0 (fun k => (⟨cellX ax bx (n : Int) k, cellX ay cy (n : Int) k⟩ : S38)) ++ [(⟨ax, ay⟩ : S38)] = tab (n + 1) (fun k => (⟨cellX ax bx (n : Int) k, cellX ay cy (n : Int) k⟩ : S38)) := by
          subst hz
          show [(⟨ax, ay⟩ : S38)] = [(⟨cellX ax bx ((0 : Nat) : Int) 0, cellX ay cy ((0 : Nat) : Int) 0⟩ : S38)]
          unfold cellX
          rw [show (((0 : Nat) : Int)) = 0 from rfl, part_zero _ _ (by omega), part_zero _ _ (by omega), Int.add_zero, Int.add_zero]
        rw [e]
        exact leg_last ax ay bx cy x9 n (n + 1) (by omega) (by omega)
      · refine Ev.ite_neg (by omega) ?_
        have h := ih (i + 1) (by omega) (by omega)
        rw [show (((i + 1 : Nat) : Int)) = (i : Int) + 1 by omega] at h
        have p1 := part_range (bx - ax) (i : Int) (n : Int) (by omega) (by omega) (by omega)
        have p2 := part_range (cy - ay) (i : Int) (n : Int) (by omega) (by omega) (by omega)
        rw [impl_part (bx - ax) (i : Int) (n : Int) (by omega) (by omega) (by omega), impl_part (cy - ay) (i : Int) (n : Int) (by omega) (by omega) (by omega)]
        simp only [Option.bind_some]
        rw [w64 (show -9223372036854775808 ≤ ax + partD (bx - ax) (i : Int) (n : Int) by omega) (by omega), w64 (show -9223372036854775808 ≤ ay + partD (cy - ay) (i : Int) (n : Int) by omega) (by omega), w64 (show -9223372036854775808 ≤ (i : Int) + 1 by omega) (by omega)]
        refine Ev.ite_pos (by omega) ?_
        rw [← tab_snoc] at h
        exact h
  exact go (n + 1) 0 (by omega) (fun _ => rfl)
def pairsOf (ax ay bx cy : Int) : List S38 :=
  if turnC ax ay bx cy = true then back ((stepsI ax ay bx cy).toNat + 1) (fun k => (⟨cellX bx ax (stepsI ax ay bx cy) k, cellX cy ay (stepsI ax ay bx cy) k⟩ : S38)) else tab ((stepsI ax ay bx cy).toNat + 1) (fun k => (⟨cellX ax bx (stepsI ax ay bx cy) k, cellX ay cy (stepsI ax ay bx cy) k⟩ : S38))
theorem impl_legC (ax ay bx cy : Int) (ha : inC ax ay = true) (hb : inC bx cy = true) : Ev (fun k => impl_leg.f k ax ay bx cy) (pairsOf ax ay bx cy) := by
  have hr := steps_range ha hb
  obtain ⟨n, hn⟩ : ∃ n : Nat, stepsI ax ay bx cy = (n : Int) := ⟨(stepsI ax ay bx cy).toNat, by omega⟩
  have j0 : Ev (fun k => impl_leg.j0 k ax ay bx cy (turnC ax ay bx cy)) (pairsOf ax ay bx cy) := by
    refine Ev.succ ?_
    simp only [impl_leg.j0]
    unfold pairsOf
    rw [hn, Int.toNat_natCast]
    by_cases ht : turnC ax ay bx cy = true
    · rw [if_pos ht, ht]
      refine Ev.ite_pos rfl (Ev.cast (impl_j1 bx cy ax ay true hb ha n (by rw [steps_swap]; exact hn)) ?_)
      rw [if_pos rfl]
    · rw [if_neg ht, Bool.eq_false_iff.2 ht]
      refine Ev.ite_neg (by decide) (Ev.cast (impl_j1 ax ay bx cy false ha hb n hn) ?_)
      rw [if_neg (by decide)]
  unfold impl_leg.f
  unfold turnC at j0
  by_cases c1 : ax > bx
  · rw [decide_eq_true (Or.inl c1)] at j0
    exact Ev.ite_pos c1 j0
  · refine Ev.ite_neg c1 ?_
    by_cases c2 : ax = bx
    · refine Ev.ite_pos c2 ?_
      rw [show decide (bx < ax ∨ bx = ax ∧ cy < ay) = decide (ay > cy) from by
        by_cases c3 : ay > cy
        · rw [decide_eq_true c3, decide_eq_true (Or.inr ⟨c2.symm, c3⟩)]
        · rw [decide_eq_false c3, decide_eq_false (by omega)]] at j0
      exact j0
    · rw [decide_eq_false (by omega)] at j0
      exact Ev.ite_neg c2 j0
theorem copy_pairs (l : List S38) (g : Nat → S38) (n : Nat) (hl : l = tab n g) (hn : n ≤ 1048576) : Ev (fun k => impl_SkyLeg.l1 k [] l (l.length : Int) 0) (tab n (fun k => (⟨(g k).f0, (g k).f1⟩ : S26))) := by
  subst hl
  rw [tab_length]
  have go : ∀ d i : Nat, i + d = n → Ev (fun k => impl_SkyLeg.l1 k (tab i (fun k => (⟨(g k).f0, (g k).f1⟩ : S26))) (tab n g) (n : Int) (i : Int)) (tab n (fun k => (⟨(g k).f0, (g k).f1⟩ : S26))) := by
    intro d
    induction d with
    | zero =>
      intro i hi
      refine Ev.succ ?_
      simp only [impl_SkyLeg.l1]
      refine Ev.ite_neg (by omega) (Ev.cast (Ev.val _) ?_)
      rw [show i = n by omega]
    | succ d ih =>
      intro i hi
      have h := ih (i + 1) (by omega)
      rw [show (((i + 1 : Nat) : Int)) = (i : Int) + 1 by omega] at h
      refine Ev.succ ?_
      simp only [impl_SkyLeg.l1, tab_length]
      rw [w64 (show -9223372036854775808 ≤ (i : Int) + 1 by omega) (by omega), rd38 n g i (by omega)]
      refine Ev.ite_pos (by omega) (Ev.ite_pos (by omega) (Ev.ite_pos (by omega) (Ev.ite_pos (by omega) ?_)))
      rw [← tab_snoc] at h
      exact h
  exact go n 0 (by omega)
theorem impl_skyleg (ax ay bx cy : Int) : Ev (fun k => impl_SkyLeg.f k ax ay bx cy) (legOf ax ay bx cy) := by
  unfold impl_SkyLeg.f
  simp only [Option.bind_some]
  have win : ∀ x : Int, impl_within.f x 0 15 = some (decide (0 ≤ x ∧ x ≤ 15)) := by
    intro x
    unfold impl_within.f
    by_cases h : x ≥ 0
    · simp [h]
    · simp [h]
  have round : ∀ (i : Nat) (x : Int) (k : Nat), i < 4 → rd [ax, ay, bx, cy] (i : Int) = x → impl_SkyLeg.l0 (k + 1) [ax, ay, bx, cy] 4 (i : Int) ax ay bx cy = if 0 ≤ x ∧ x ≤ 15 then impl_SkyLeg.l0 k [ax, ay, bx, cy] 4 ((i : Int) + 1) ax ay bx cy else some [] := by
    intro i x k hi hx
    simp only [impl_SkyLeg.l0, hx, win, Option.bind_some]
    rw [if_pos (by omega), if_pos (by omega), if_pos (by simp only [List.length_cons, List.length_nil]; omega), w64 (show -9223372036854775808 ≤ (i : Int) + 1 by omega) (by omega)]
    by_cases h : 0 ≤ x ∧ x ≤ 15
    · rw [if_pos (decide_eq_true h), if_pos h]
    · rw [if_neg (by rw [decide_eq_false h]; decide), if_neg h]
  have e4 : (([ax, ay, bx, cy] : List Int).length : Int) = 4 := rfl
  rw [e4]
  by_cases hin : inC ax ay = true ∧ inC bx cy = true
  · obtain ⟨ha, hb⟩ := hin
    have h1 := (inC_iff _ _).1 ha
    have h2 := (inC_iff _ _).1 hb
    have hr := steps_range ha hb
    refine Ev.step (fun k => (round 0 ax k (by omega) rfl).trans (if_pos h1.1)) ?_
    refine Ev.step (fun k => (round 1 ay k (by omega) rfl).trans (if_pos h1.2)) ?_
    refine Ev.step (fun k => (round 2 bx k (by omega) rfl).trans (if_pos h2.1)) ?_
    refine Ev.step (fun k => (round 3 cy k (by omega) rfl).trans (if_pos h2.2)) ?_
    refine Ev.succ ?_
    simp only [impl_SkyLeg.l0]
    refine Ev.ite_neg (by omega) (Ev.bind (impl_legC ax ay bx cy ha hb) ?_)
    unfold legOf
    rw [if_pos ⟨ha, hb⟩]
    unfold pairsOf
    obtain ⟨n, hn⟩ : ∃ n : Nat, stepsI ax ay bx cy = (n : Int) := ⟨(stepsI ax ay bx cy).toNat, by omega⟩
    rw [hn, Int.toNat_natCast]
    by_cases ht : turnC ax ay bx cy = true
    · rw [if_pos ht, if_pos ht]
      exact copy_pairs _ _ (n + 1) rfl (by omega)
    · rw [if_neg ht, if_neg ht]
      exact copy_pairs _ _ (n + 1) rfl (by omega)
  · unfold legOf
    rw [if_neg hin]
    by_cases h1 : 0 ≤ ax ∧ ax ≤ 15
    · refine Ev.step (fun k => (round 0 ax k (by omega) rfl).trans (if_pos h1)) ?_
      by_cases h2 : 0 ≤ ay ∧ ay ≤ 15
      · refine Ev.step (fun k => (round 1 ay k (by omega) rfl).trans (if_pos h2)) ?_
        by_cases h3 : 0 ≤ bx ∧ bx ≤ 15
        · refine Ev.step (fun k => (round 2 bx k (by omega) rfl).trans (if_pos h3)) ?_
          by_cases h4 : 0 ≤ cy ∧ cy ≤ 15
          · exact absurd ⟨(inC_iff _ _).2 ⟨h1, h2⟩, (inC_iff _ _).2 ⟨h3, h4⟩⟩ hin
          · exact Ev.step (fun k => (round 3 cy k (by omega) rfl).trans (if_neg h4)) (Ev.val _)
        · exact Ev.step (fun k => (round 2 bx k (by omega) rfl).trans (if_neg h3)) (Ev.val _)
      · exact Ev.step (fun k => (round 1 ay k (by omega) rfl).trans (if_neg h2)) (Ev.val _)
    · exact Ev.step (fun k => (round 0 ax k (by omega) rfl).trans (if_neg h1)) (Ev.val _)
theorem FnExactSkyLeg : Said := by
  intro ax ay bx cy _ _
  refine Ev.rounds (r := true) ?_
  unfold laws_FnExactSkyLeg.f laws_toSkyCell.f
  simp only [Option.bind_some]
  have hl := legOf_length ax ay bx cy
  have hl' : (legOf ax ay bx cy).length ≤ 1048576 := by omega
  refine Ev.bind (spec_leg ax ay bx cy) (Ev.bind (impl_skyleg ax ay bx cy) (Ev.bind (eqSkyCellS_ev _ hl') (Ev.ite_pos rfl (Ev.bind (markSkyCellS_ev _ hl') (Ev.bind (heldSkyCellS_ev _ hl') (Ev.ite_neg (by omega) (Ev.ite_pos rfl ?_)))))))
  exact Ev.bind (impl_skyleg ax ay bx cy) (Ev.bind (eqSkyCellS_ev _ hl') (Ev.ite_pos rfl (Ev.bind (heldSkyCellS_ev _ hl') (Ev.ite_neg (by omega) (Ev.ite_pos rfl (Ev.val _))))))
end Go.Proofs.Ytlmolfiinhblnaa.Pure
