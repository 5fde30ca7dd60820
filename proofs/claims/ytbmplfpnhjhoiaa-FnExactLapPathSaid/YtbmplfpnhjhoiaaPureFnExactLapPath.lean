/-
  The law FnExactLapPath over numbers and lists: both tell the same path through every row of boxes.
-/
import Derived.Test.YtbmplfpnhjhoiaaSayFnExactLapPath
import Derived.Test.YtbmplfpnhjhoiaaStdFnExactLapPath
namespace Go.Proofs.Ytbmplfpnhjhoiaa.Pure
open Go.RowKit Go.Proofs.Ytbmplfpnhjhoiaa.QFnExactLapPath Go.Proofs.YtbmplfpnhjhoiaaW.PrintWords Go.Proofs.Ytbmplfpnhjhoiaa.Kit Go.Proofs.Ytbmplfpnhjhoiaa.StdFnExactLapPath Go.Proofs.Ytbmplfpnhjhoiaa.SayFnExactLapPath
set_option linter.unusedSimpArgs false
set_option linter.unusedVariables false
theorem eqFlyPath_ev (q s : Int) (l : List S132) (f b : Int) (hm : l.length ≤ 1048576) : Ev (fun k => laws_eqFlyPath.f k q s l f b q s l f b) true := by
  unfold laws_eqFlyPath.f laws_eqFlyKind.f
  simp only [if_true, Option.bind_some]
  exact Ev.bind (eqFlyStepS_ev l hm) (Ev.ite_pos rfl (Ev.val _))
/-! #### a path that is ok, said once -/
def kindOk (q s : Int) : Bool := decide (1 ≤ q ∧ q ≤ s ∧ s ≤ 50)
def winOk (f b : Int) : Bool := decide (0 ≤ f ∧ f ≤ b ∧ b ≤ 10000)
def stepOk (x : S132) : Bool := decide ((0 ≤ x.f0 ∧ x.f0 ≤ 15) ∧ (0 ≤ x.f1 ∧ x.f1 ≤ 15) ∧ (0 ≤ x.f2 ∧ x.f2 ≤ x.f3 ∧ x.f3 ≤ 6) ∧ 0 ≤ x.f4 ∧ x.f4 ≤ x.f5 ∧ x.f5 ≤ 10000)
def nextOk (a x : S132) : Bool := decide ((-1 ≤ a.f0 - x.f0 ∧ a.f0 - x.f0 ≤ 1) ∧ (-1 ≤ a.f1 - x.f1 ∧ a.f1 - x.f1 ≤ 1) ∧ (a.f0 = x.f0 → a.f1 ≠ x.f1) ∧ a.f2 ≤ x.f3 ∧ x.f2 ≤ a.f3)
def placeOk (l : List S132) (j : Nat) : Bool := stepOk (rd_T132 l (j : Int)) && (decide (j = 0) || nextOk (rd_T132 l ((j : Int) - 1)) (rd_T132 l (j : Int)))
def pathOk (q s : Int) (l : List S132) (f b : Int) : Bool := kindOk q s && (decide (1 ≤ l.length ∧ l.length ≤ 40) && (winOk f b && allN (placeOk l) l.length 0))
theorem stepOk_iff (x : S132) : stepOk x = true ↔ ((0 ≤ x.f0 ∧ x.f0 ≤ 15) ∧ (0 ≤ x.f1 ∧ x.f1 ≤ 15) ∧ (0 ≤ x.f2 ∧ x.f2 ≤ x.f3 ∧ x.f3 ≤ 6) ∧ 0 ≤ x.f4 ∧ x.f4 ≤ x.f5 ∧ x.f5 ≤ 10000) := decide_eq_true_iff
theorem nextOk_iff (a x : S132) : nextOk a x = true ↔ ((-1 ≤ a.f0 - x.f0 ∧ a.f0 - x.f0 ≤ 1) ∧ (-1 ≤ a.f1 - x.f1 ∧ a.f1 - x.f1 ≤ 1) ∧ (a.f0 = x.f0 → a.f1 ≠ x.f1) ∧ a.f2 ≤ x.f3 ∧ x.f2 ≤ a.f3) := decide_eq_true_iff
theorem pathOk_facts {q s : Int} {l : List S132} {f b : Int} (h : pathOk q s l f b = true) : (1 ≤ q ∧ q ≤ s ∧ s ≤ 50) ∧ (1 ≤ l.length ∧ l.length ≤ 40) ∧ (0 ≤ f ∧ f ≤ b ∧ b ≤ 10000) ∧ ∀ j : Nat, j < l.length → stepOk (rd_T132 l (j : Int)) = true := by
  unfold pathOk at h
  rw [Bool.and_eq_true, Bool.and_eq_true, Bool.and_eq_true] at h
  obtain ⟨h1, h2, h3, h4⟩ := h
  refine ⟨of_decide_eq_true h1, of_decide_eq_true h2, of_decide_eq_true h3, fun j hj => ?_⟩
  have := (allN_iff _ _).1 h4 j (by omega) (by omega)
  unfold placeOk at this
  rw [Bool.and_eq_true] at this
  exact this.1
/-- The window of the i-th tick of a flight: that of step i, or of the path. -/
def loAt (l : List S132) (f : Int) (i : Int) : Int := if i < (l.length : Int) then (rd_T132 l i).f4 else f
def hiAt (l : List S132) (b : Int) (i : Int) : Int := if i < (l.length : Int) then (rd_T132 l i).f5 else b
theorem loAt_range {q s : Int} {l : List S132} {f b : Int} (h : pathOk q s l f b = true) (i : Nat) : 0 ≤ loAt l f i ∧ loAt l f i ≤ hiAt l b i ∧ hiAt l b i ≤ 10000 := by
  obtain ⟨_, _, h3, h4⟩ := pathOk_facts h
  unfold loAt hiAt
  by_cases hi : (i : Int) < (l.length : Int)
  · rw [if_pos hi, if_pos hi]
    have := (stepOk_iff _).1 (h4 i (by omega))
    omega
  · rw [if_neg hi, if_neg hi]
    omega
theorem spec_in (a b c : Int) : spec_l21In.f a b c = some (decide (b ≤ a ∧ a ≤ c)) := by
  unfold spec_l21In.f
  by_cases h : a ≥ b <;> simp [h]
theorem spec_kind (q s : Int) : spec_FlyKindOk.f q s = some (kindOk q s) := by
  unfold spec_FlyKindOk.f kindOk
  rw [spec_in]
  simp only [Option.bind_some]
  by_cases h1 : 1 ≤ q <;> by_cases h2 : q ≤ s <;> simp [h1, h2]
theorem spec_step (x : S132) : spec_l22StepOk.f x.f0 x.f1 x.f2 x.f3 x.f4 x.f5 x.f6 = some (stepOk x) := by
  unfold spec_l22StepOk.f stepOk
  simp only [spec_in, Option.bind_some, decide_eq_true_eq]
  by_cases h0 : 0 ≤ x.f0 ∧ x.f0 ≤ 15
  · rw [if_pos h0]
    by_cases h1 : 0 ≤ x.f1 ∧ x.f1 ≤ 15
    · rw [if_pos h1]
      by_cases h2 : 0 ≤ x.f2 ∧ x.f2 ≤ x.f3
      · rw [if_pos h2]
        by_cases h3 : x.f3 ≤ 6
        · rw [if_pos h3]
          by_cases h4 : 0 ≤ x.f4 ∧ x.f4 ≤ x.f5
          · rw [if_pos h4]
            congr 1
            apply decide_eq_decide.2
            omega
          · rw [if_neg h4]
            congr 1
            symm
            apply decide_eq_false
            omega
        · rw [if_neg h3]
          congr 1
          symm
          apply decide_eq_false
          omega
      · rw [if_neg h2]
        congr 1
        symm
        apply decide_eq_false
        omega
    · rw [if_neg h1]
      congr 1
      symm
      apply decide_eq_false
      omega
  · rw [if_neg h0]
    congr 1
    symm
    apply decide_eq_false
    omega
theorem spec_next (a x : S132) (ha : stepOk a = true) (hx : stepOk x = true) : spec_l22Next.f a.f0 a.f1 a.f2 a.f3 a.f4 a.f5 a.f6 x.f0 x.f1 x.f2 x.f3 x.f4 x.f5 x.f6 = some (nextOk a x) := by
  have ha := (stepOk_iff a).1 ha
  have hx := (stepOk_iff x).1 hx
  unfold spec_l22Next.f nextOk
  rw [w64 (show -9223372036854775808 ≤ a.f0 - x.f0 by omega) (by omega), w64 (show -9223372036854775808 ≤ a.f1 - x.f1 by omega) (by omega)]
  simp only [spec_in, Option.bind_some, decide_eq_true_eq]
  repeat' split
  all_goals first | (congr 1; apply decide_eq_decide.2; omega) | (congr 1; symm; apply decide_eq_false; omega)
def specPlace (l : List S132) (j : Nat) : Bool := stepOk (rd_T132 l (j : Int)) && (decide (j = 0) || decide (spec_l22Next.f (rd_T132 l ((j : Int) - 1)).f0 (rd_T132 l ((j : Int) - 1)).f1 (rd_T132 l ((j : Int) - 1)).f2 (rd_T132 l ((j : Int) - 1)).f3 (rd_T132 l ((j : Int) - 1)).f4 (rd_T132 l ((j : Int) - 1)).f5 (rd_T132 l ((j : Int) - 1)).f6 (rd_T132 l (j : Int)).f0 (rd_T132 l (j : Int)).f1 (rd_T132 l (j : Int)).f2 (rd_T132 l (j : Int)).f3 (rd_T132 l (j : Int)).f4 (rd_T132 l (j : Int)).f5 (rd_T132 l (j : Int)).f6 = some true))
theorem next_some (a0 a1 a2 a3 a4 a5 : Int) (a6 : Bool) (x0 x1 x2 x3 x4 x5 : Int) (x6 : Bool) : ∃ t, spec_l22Next.f a0 a1 a2 a3 a4 a5 a6 x0 x1 x2 x3 x4 x5 x6 = some t := by
  unfold spec_l22Next.f
  simp only [spec_in, Option.bind_some]
  repeat' split
  all_goals exact ⟨_, rfl⟩
theorem spec_places (l : List S132) : allN (specPlace l) l.length 0 = allN (placeOk l) l.length 0 := by
  refine allN_hist _ _ (fun j _ _ hh => ?_)
  unfold specPlace placeOk
  by_cases hs : stepOk (rd_T132 l (j : Int)) = true
  · rw [hs]
    by_cases h0 : j = 0
    · simp [h0]
    · have hp := hh (j - 1) (by omega) (by omega)
      unfold specPlace at hp
      rw [Bool.and_eq_true] at hp
      have hp := hp.1
      rw [show (((j - 1 : Nat) : Int)) = (j : Int) - 1 by omega] at hp
      rw [spec_next _ _ hp hs]
      simp
  · rw [Bool.eq_false_iff.2 hs]
    simp
theorem spec_pathOk (q s : Int) (l : List S132) (f b : Int) : Ev (fun k => spec_FlyPathOk.f k q s l f b) (pathOk q s l f b) := by
  unfold spec_FlyPathOk.f pathOk
  have bad : Ev (fun k => spec_FlyPathOk.j0 k true q s l f b) false := Ev.step (fun k => (by simp only [spec_FlyPathOk.j0]; exact if_pos trivial)) (Ev.val _)
  simp only [spec_kind, spec_in, Option.bind_some]
  by_cases h1 : kindOk q s = true
  · rw [h1]
    refine Ev.ite_pos rfl ?_
    by_cases h2 : 1 ≤ l.length ∧ l.length ≤ 40
    · rw [decide_eq_true h2]
      refine Ev.ite_pos (by rw [decide_eq_true_eq]; omega) ?_
      by_cases h3 : 0 ≤ f ∧ f ≤ b
      · refine Ev.ite_pos (by rw [decide_eq_true_eq]; exact h3) ?_
        refine Ev.succ ?_
        simp only [spec_FlyPathOk.j0]
        by_cases h4 : b > 10000
        · refine Ev.ite_pos (decide_eq_true h4) (Ev.cast (Ev.val _) ?_)
          have : winOk f b = false := decide_eq_false (by omega)
          rw [this]; rfl
        · refine Ev.ite_neg (by simpa using h4) ?_
          have : winOk f b = true := decide_eq_true (by omega)
          rw [this, ← spec_places]
          have key := find_loop (F := fun k i => spec_FlyPathOk.l0 k i q s l f b) l.length (fun j => !specPlace l j) (fun _ => false) true ?_ ?_ ?_ l.length 0 (by omega)
          · exact key
          · intro i hi hp
            refine Ev.step (fun k => ?_) (Ev.val _)
            simp only [spec_FlyPathOk.l0, if_pos (show (i : Int) < (l.length : Int) by omega), if_pos (show (0 : Int) ≤ i by omega), spec_step, Option.bind_some]
            unfold specPlace at hp
            by_cases hs : stepOk (rd_T132 l (i : Int)) = true
            · rw [hs] at hp ⊢
              rw [if_pos rfl]
              by_cases hi0 : i = 0
              · simp [hi0] at hp
              · rw [if_pos (show (i : Int) > 0 by omega), w64 (show -9223372036854775808 ≤ (i : Int) - 1 by omega) (by omega), if_pos (by omega), if_pos (by omega)]
                obtain ⟨t, ht⟩ := next_some (rd_T132 l ((i : Int) - 1)).f0 (rd_T132 l ((i : Int) - 1)).f1 (rd_T132 l ((i : Int) - 1)).f2 (rd_T132 l ((i : Int) - 1)).f3 (rd_T132 l ((i : Int) - 1)).f4 (rd_T132 l ((i : Int) - 1)).f5 (rd_T132 l ((i : Int) - 1)).f6 (rd_T132 l (i : Int)).f0 (rd_T132 l (i : Int)).f1 (rd_T132 l (i : Int)).f2 (rd_T132 l (i : Int)).f3 (rd_T132 l (i : Int)).f4 (rd_T132 l (i : Int)).f5 (rd_T132 l (i : Int)).f6
                rw [ht] at hp ⊢
                simp only [Option.bind_some]
                have : t = false := by simpa [hi0] using hp
                rw [this]
                rfl
            · rw [if_neg hs]
          · intro i hi hp r' hr
            refine Ev.step (fun k => ?_) hr
            simp only [spec_FlyPathOk.l0, if_pos (show (i : Int) < (l.length : Int) by omega), if_pos (show (0 : Int) ≤ i by omega), spec_step, Option.bind_some]
            unfold specPlace at hp
            by_cases hs : stepOk (rd_T132 l (i : Int)) = true
            · rw [hs] at hp ⊢
              rw [if_pos rfl]
              by_cases hi0 : i = 0
              · rw [if_neg (by omega), w64 (by omega) (by omega)]
              · rw [if_pos (show (i : Int) > 0 by omega), w64 (show -9223372036854775808 ≤ (i : Int) - 1 by omega) (by omega), if_pos (by omega), if_pos (by omega)]
                obtain ⟨t, ht⟩ := next_some (rd_T132 l ((i : Int) - 1)).f0 (rd_T132 l ((i : Int) - 1)).f1 (rd_T132 l ((i : Int) - 1)).f2 (rd_T132 l ((i : Int) - 1)).f3 (rd_T132 l ((i : Int) - 1)).f4 (rd_T132 l ((i : Int) - 1)).f5 (rd_T132 l ((i : Int) - 1)).f6 (rd_T132 l (i : Int)).f0 (rd_T132 l (i : Int)).f1 (rd_T132 l (i : Int)).f2 (rd_T132 l (i : Int)).f3 (rd_T132 l (i : Int)).f4 (rd_T132 l (i : Int)).f5 (rd_T132 l (i : Int)).f6
                rw [ht] at hp ⊢
                simp only [Option.bind_some]
                have : t = true := by simpa [hi0] using hp
                rw [this, if_pos rfl, w64 (by omega) (by omega)]
            · simp [hs] at hp
          · refine Ev.step (fun k => ?_) (Ev.val _)
            simp only [spec_FlyPathOk.l0]
            rw [if_neg (by omega)]
      · refine Ev.ite_neg (by rw [decide_eq_true_eq]; exact h3) (Ev.cast bad ?_)
        have : winOk f b = false := decide_eq_false (by omega)
        rw [this]; rfl
    · rw [decide_eq_false h2]
      exact Ev.ite_neg (by rw [decide_eq_true_eq]; omega) bad
  · rw [Bool.eq_false_iff.2 h1]
    exact Ev.ite_neg (by decide) bad
theorem impl_in (a b c : Int) : impl_within.f a b c = some (decide (b ≤ a ∧ a ≤ c)) := by
  unfold impl_within.f
  by_cases h : a ≥ b <;> simp [h]
theorem impl_kind (q s : Int) : impl_FlyKindOk.f q s = some (kindOk q s) := by
  unfold impl_FlyKindOk.f kindOk
  by_cases h1 : 1 ≤ q <;> by_cases h2 : q ≤ s <;> simp [h1, h2]
theorem impl_win (f b : Int) : impl_window.f f b = some (winOk f b) := by
  unfold impl_window.f winOk
  by_cases h1 : 0 ≤ f <;> by_cases h2 : f ≤ b <;> simp [h1, h2]
def distW (a b : Int) : Int := if a > b then wrap64 (a - b) else wrap64 (b - a)
theorem impl_distW (a b : Int) : impl_dist.f a b = some (distW a b) := by
  unfold impl_dist.f distW
  split <;> rfl
def nextW (a x : S132) : Bool := decide ((a.f0 = x.f0 → a.f1 ≠ x.f1) ∧ distW a.f0 x.f0 ≤ 1 ∧ distW a.f1 x.f1 ≤ 1 ∧ a.f2 ≤ x.f3 ∧ x.f2 ≤ a.f3)
theorem nextW_eq (a x : S132) (ha : stepOk a = true) (hx : stepOk x = true) : nextW a x = nextOk a x := by
  have ha := (stepOk_iff a).1 ha
  have hx := (stepOk_iff x).1 hx
  unfold nextW nextOk
  have d : ∀ p r : Int, 0 ≤ p → p ≤ 15 → 0 ≤ r → r ≤ 15 → (distW p r ≤ 1 ↔ -1 ≤ p - r ∧ p - r ≤ 1) := by
    intro p r _ _ _ _
    unfold distW
    by_cases h : p > r
    · rw [if_pos h, w64 (by omega) (by omega)]; omega
    · rw [if_neg h, w64 (by omega) (by omega)]; omega
  have d0 := d a.f0 x.f0 (by omega) (by omega) (by omega) (by omega)
  have d1 := d a.f1 x.f1 (by omega) (by omega) (by omega) (by omega)
  apply decide_eq_decide.2
  rw [d0, d1]
  omega
def implPlace (l : List S132) (j : Nat) : Bool := stepOk (rd_T132 l (j : Int)) && (decide (j = 0) || nextW (rd_T132 l ((j : Int) - 1)) (rd_T132 l (j : Int)))
theorem impl_places (l : List S132) : allN (implPlace l) l.length 0 = allN (placeOk l) l.length 0 := by
  refine allN_hist _ _ (fun j _ _ hh => ?_)
  unfold implPlace placeOk
  by_cases hs : stepOk (rd_T132 l (j : Int)) = true
  · rw [hs]
    by_cases h0 : j = 0
    · simp [h0]
    · have hp := hh (j - 1) (by omega) (by omega)
      unfold implPlace at hp
      rw [Bool.and_eq_true] at hp
      have hp := hp.1
      rw [show (((j - 1 : Nat) : Int)) = (j : Int) - 1 by omega] at hp
      rw [nextW_eq _ _ hp hs]
  · rw [Bool.eq_false_iff.2 hs]
    simp
theorem impl_round (q s : Int) (l : List S132) (f b : Int) (i : Nat) (hi : i < l.length) (k : Nat) : impl_FlyPathOk.l0 (k + 1) l (l.length : Int) i q s l f b =
    impl_FlyPathOk.j2 k i l (l.length : Int) i (!stepOk (rd_T132 l (i : Int))) q s l f b (rd_T132 l (i : Int)).f0 (rd_T132 l (i : Int)).f1 (rd_T132 l (i : Int)).f2 (rd_T132 l (i : Int)).f3 (rd_T132 l (i : Int)).f4 (rd_T132 l (i : Int)).f5 (rd_T132 l (i : Int)).f6 := by
  simp only [impl_FlyPathOk.l0, if_pos (show (i : Int) < (l.length : Int) by omega), if_pos (show (0 : Int) ≤ i by omega), impl_in, impl_win, Option.bind_some, decide_eq_true_eq]
  generalize rd_T132 l (i : Int) = x
  have e : ∀ c : Bool, c = stepOk x → ∀ {α : Type} (g : Bool → α), g (!c) = g (!stepOk x) := fun c h α g => by rw [h]
  by_cases h0 : 0 ≤ x.f0 ∧ x.f0 ≤ 15
  · rw [if_pos h0]
    by_cases h1 : 0 ≤ x.f1 ∧ x.f1 ≤ 15
    · rw [if_pos h1]
      by_cases h2 : 0 ≤ x.f2
      · rw [if_pos h2]
        by_cases h3 : x.f2 ≤ x.f3
        · rw [if_pos h3]
          by_cases h4 : x.f3 ≤ 6
          · rw [if_pos h4]
            have : winOk x.f4 x.f5 = stepOk x := by
              unfold winOk stepOk
              apply decide_eq_decide.2
              omega
            rw [this]
          · rw [if_neg h4, show stepOk x = false from decide_eq_false (by omega)]; rfl
        · rw [if_neg h3, show stepOk x = false from decide_eq_false (by omega)]; rfl
      · rw [if_neg h2, show stepOk x = false from decide_eq_false (by omega)]; rfl
    · rw [if_neg h1, show stepOk x = false from decide_eq_false (by omega)]; rfl
  · rw [if_neg h0, show stepOk x = false from decide_eq_false (by omega)]; rfl
theorem impl_second (q s : Int) (l : List S132) (f b : Int) (i : Nat) (hi : i < l.length) (h0 : i ≠ 0) (x : S132) (k : Nat) (hl : l.length ≤ 40) : impl_FlyPathOk.j2 (k + 1) i l (l.length : Int) i false q s l f b x.f0 x.f1 x.f2 x.f3 x.f4 x.f5 x.f6 =
    if nextW (rd_T132 l ((i : Int) - 1)) x = true then impl_FlyPathOk.l0 k l (l.length : Int) ((i : Int) + 1) q s l f b else some false := by
  simp only [impl_FlyPathOk.j2, impl_distW, Option.bind_some]
  rw [if_neg (show ¬ (false = true) by decide), if_neg (show ¬ (i : Int) = 0 by omega), w64 (show -9223372036854775808 ≤ (i : Int) - 1 by omega) (by omega), if_pos (by omega), if_pos (by omega), w64 (show -9223372036854775808 ≤ (i : Int) + 1 by omega) (by omega)]
  generalize rd_T132 l ((i : Int) - 1) = a
  generalize impl_FlyPathOk.l0 k l (l.length : Int) ((i : Int) + 1) q s l f b = r
  unfold nextW
  simp only [decide_eq_true_eq]
  by_cases c0 : a.f0 = x.f0
  · rw [if_pos c0]
    by_cases c1 : a.f1 = x.f1
    · rw [if_pos c1, if_neg (fun h => h.1 c0 c1)]
    · rw [if_neg c1]
      repeat' split
      all_goals first | rfl | (exfalso; omega)
  · rw [if_neg c0]
    repeat' split
    all_goals first | rfl | (exfalso; omega)
theorem impl_pathOk (q s : Int) (l : List S132) (f b : Int) : Ev (fun k => impl_FlyPathOk.f k q s l f b) (pathOk q s l f b) := by
  unfold impl_FlyPathOk.f pathOk
  have bad : Ev (fun k => impl_FlyPathOk.j0 k true q s l f b) false := Ev.step (fun k => (by simp only [impl_FlyPathOk.j0]; exact if_pos trivial)) (Ev.val _)
  simp only [impl_kind, impl_in, impl_win, Option.bind_some]
  by_cases h1 : kindOk q s = true
  · rw [h1]
    refine Ev.ite_pos rfl ?_
    by_cases h2 : 1 ≤ l.length ∧ l.length ≤ 40
    · rw [decide_eq_true h2]
      refine Ev.ite_pos (by rw [decide_eq_true_eq]; omega) ?_
      refine Ev.succ ?_
      simp only [impl_FlyPathOk.j0]
      by_cases h3 : winOk f b = true
      · rw [h3, ← impl_places]
        refine Ev.ite_neg (by decide) ?_
        have key := find_loop (F := fun k i => impl_FlyPathOk.l0 k l (l.length : Int) i q s l f b) l.length (fun j => !implPlace l j) (fun _ => false) true ?_ ?_ ?_ l.length 0 (by omega)
        · exact key
        · intro i hi hp
          refine Ev.step (impl_round q s l f b i hi) ?_
          unfold implPlace at hp
          refine Ev.succ ?_
          by_cases hs : stepOk (rd_T132 l (i : Int)) = true
          · rw [hs] at hp ⊢
            by_cases hi0 : i = 0
            · simp [hi0] at hp
            · refine Ev.congr (fun k => impl_second q s l f b i hi hi0 _ k h2.2) ?_
              refine Ev.ite_neg ?_ (Ev.val _)
              simpa [hi0] using hp
          · rw [Bool.eq_false_iff.2 hs]
            simp only [impl_FlyPathOk.j2]
            exact Ev.ite_pos rfl (Ev.val _)
        · intro i hi hp r' hr
          refine Ev.step (impl_round q s l f b i hi) ?_
          unfold implPlace at hp
          refine Ev.succ ?_
          by_cases hs : stepOk (rd_T132 l (i : Int)) = true
          · rw [hs] at hp ⊢
            by_cases hi0 : i = 0
            · subst hi0
              simp only [impl_FlyPathOk.j2]
              refine Ev.ite_neg (by decide) (Ev.ite_pos rfl ?_)
              rw [w64 (by omega) (by omega)]
              exact hr
            · refine Ev.congr (fun k => impl_second q s l f b i hi hi0 _ k h2.2) ?_
              refine Ev.ite_pos ?_ hr
              simpa [hi0] using hp
          · simp [hs] at hp
        · refine Ev.step (fun k => ?_) (Ev.val _)
          simp only [impl_FlyPathOk.l0]
          rw [if_neg (by omega)]
      · rw [Bool.eq_false_iff.2 h3]
        exact Ev.ite_pos rfl (Ev.val _)
    · rw [decide_eq_false h2]
      exact Ev.ite_neg (by rw [decide_eq_true_eq]; omega) bad
  · rw [Bool.eq_false_iff.2 h1]
    exact Ev.ite_neg (by decide) bad
/-! #### boxes that are ok, boxes that come too near -/
def boxOk (b : S41) : Bool := decide ((0 ≤ b.f0 ∧ b.f0 ≤ 15) ∧ (0 ≤ b.f1 ∧ b.f1 ≤ 15) ∧ (0 ≤ b.f2 ∧ b.f2 ≤ b.f3 ∧ b.f3 ≤ 6) ∧ 0 ≤ b.f4 ∧ b.f4 ≤ b.f5 ∧ b.f5 ≤ 10000)
theorem boxOk_iff (b : S41) : boxOk b = true ↔ ((0 ≤ b.f0 ∧ b.f0 ≤ 15) ∧ (0 ≤ b.f1 ∧ b.f1 ≤ 15) ∧ (0 ≤ b.f2 ∧ b.f2 ≤ b.f3 ∧ b.f3 ≤ 6) ∧ 0 ≤ b.f4 ∧ b.f4 ≤ b.f5 ∧ b.f5 ≤ 10000) := decide_eq_true_iff
theorem spec_hin (a b c : Int) : spec_l31In.f a b c = some (decide (b ≤ a ∧ a ≤ c)) := by
  unfold spec_l31In.f
  by_cases h : a ≥ b <;> simp [h]
theorem impl_hin (a b c : Int) : impl_within.f a b c = some (decide (b ≤ a ∧ a ≤ c)) := by
  unfold impl_within.f
  by_cases h : a ≥ b <;> simp [h]
theorem spec_box (b : S41) : spec_l31BoxOk.f b.f0 b.f1 b.f2 b.f3 b.f4 b.f5 = some (boxOk b) := by
  unfold spec_l31BoxOk.f boxOk
  simp only [spec_hin, Option.bind_some, decide_eq_true_eq]
  repeat' split
  all_goals first | (congr 1; apply decide_eq_decide.2; omega) | (congr 1; symm; apply decide_eq_false; omega)
theorem impl_box (b : S41) : impl_handBox.f b.f0 b.f1 b.f2 b.f3 b.f4 b.f5 = some (boxOk b) := by
  unfold impl_handBox.f boxOk
  simp only [impl_hin, Option.bind_some, decide_eq_true_eq]
  repeat' split
  all_goals first | (congr 1; apply decide_eq_decide.2; omega) | (congr 1; symm; apply decide_eq_false; omega)
/-- A row told place by place. -/
def tab {α : Type} (n : Nat) (g : Nat → α) : List α := (List.range n).map g
theorem tab_length {α : Type} (n : Nat) (g : Nat → α) : (tab n g).length = n := by simp [tab]
theorem tab_get {α : Type} (n : Nat) (g : Nat → α) (i : Nat) (hi : i < n) : (tab n g)[i]? = some (g i) := by simp [tab, hi]
theorem tab_congr {α : Type} (n : Nat) (g g' : Nat → α) (hg : ∀ j, j < n → g j = g' j) : tab n g = tab n g' := by
  apply List.ext_getElem?
  intro j
  rcases Nat.lt_or_ge j n with hj | hj
  · rw [tab_get n g j hj, tab_get n g' j hj, hg j hj]
  · rw [List.getElem?_eq_none (by rw [tab_length]; omega), List.getElem?_eq_none (by rw [tab_length]; omega)]
theorem tab_set {α : Type} (n : Nat) (g : Nat → α) (i : Nat) (v : α) (hi : i < n) : (tab n g).set i v = tab n (fun j => if j = i then v else g j) := by
  apply List.ext_getElem?
  intro j
  rcases Nat.lt_or_ge j n with hj | hj
  · rw [tab_get n _ j hj]
    by_cases e : j = i
    · subst e
      rw [List.getElem?_set_self (by rw [tab_length]; omega), if_pos rfl]
    · rw [List.getElem?_set_ne (Ne.symm e), tab_get n g j hj, if_neg e]
  · rw [List.getElem?_eq_none (by rw [List.length_set, tab_length]; omega), List.getElem?_eq_none (by rw [tab_length]; omega)]
theorem tab_snoc {α : Type} (n : Nat) (g : Nat → α) : tab n g ++ [g n] = tab (n + 1) g := by simp [tab, List.range_succ]
theorem markFlyPath_ev (q s : Int) (l : List S132) (f b : Int) (hm : l.length ≤ 1048576) : Ev (fun k => laws_markFlyPath.f k q s l f b 1) (1 + 7 * (l.length : Int), marks mk_markFlyStepS 1 7 l.length) := by
  unfold laws_markFlyPath.f
  exact Ev.bind (markFlyStepS_ev l hm) (Ev.val _)
theorem heldFlyPath_ev (q s : Int) (n : Nat) (f b : Int) (hm : n ≤ 1048576) : Ev (fun k => laws_heldFlyPath.f k q s (marks mk_markFlyStepS 1 7 n) f b 1) (1 + 7 * (n : Int)) := by
  unfold laws_heldFlyPath.f
  exact Ev.bind (heldFlyStepS_ev n hm) (Ev.ite_neg (by omega) (Ev.val _))
theorem mn_min (a b : Int) : mn a b = min a b := by
  unfold mn
  split <;> omega
theorem min_lap (a b : Int) : spec_l21Min.f a b = some (min a b) := by
  unfold spec_l21Min.f
  by_cases h : a < b
  · rw [if_pos h]; congr 1; omega
  · rw [if_neg h]; congr 1; omega
def lapStep (x : List S41) (i : Nat) : S132 := ⟨(rd_T41 x (i : Int)).f0, (rd_T41 x (i : Int)).f1, (rd_T41 x (i : Int)).f2, (rd_T41 x (i : Int)).f3, (rd_T41 x (i : Int)).f4, if i = 0 then (rd_T41 x (i : Int)).f5 else min (wrap64 ((rd_T41 x ((i : Int) - 1)).f5 + 1)) (rd_T41 x (i : Int)).f5, false⟩
def lapF (x : List S41) : Nat → Int
  | 0 => 0
  | i + 1 => (rd_T41 x (i : Int)).f4
def lapB (x : List S41) : Nat → Int
  | 0 => 0
  | i + 1 => wrap64 ((rd_T41 x (i : Int)).f5 + 1)
def lapEnd (q s : Int) (x : List S41) : Int × Int × List S132 × Int × Int :=
  if pathOk q s (tab x.length (lapStep x)) (lapF x x.length) (lapB x x.length) = true then (q, s, tab x.length (lapStep x), lapF x x.length, lapB x x.length) else (0, 0, [], 0, 0)
def lapOf (q s : Int) (x : List S41) : Int × Int × List S132 × Int × Int := findN (fun j => !boxOk (rd_T41 x (j : Int))) (fun _ => (0, 0, [], 0, 0)) (lapEnd q s x) x.length 0
theorem lapEnd_length (q s : Int) (x : List S41) : (lapEnd q s x).2.2.1.length ≤ x.length := by
  unfold lapEnd
  split
  · exact Nat.le_of_eq (tab_length _ _)
  · exact Nat.zero_le _
theorem findN_bound {P : Nat → Bool} {r : Int × Int × List S132 × Int × Int} {n : Nat} (hr : r.2.2.1.length ≤ n) : ∀ d i, (findN P (fun _ => ((0, 0, [], 0, 0) : Int × Int × List S132 × Int × Int)) r d i).2.2.1.length ≤ n
  | 0, _ => hr
  | d + 1, i => by
    simp only [findN]
    split
    · exact Nat.zero_le _
    · exact findN_bound hr d (i + 1)
theorem lapOf_length (q s : Int) (x : List S41) : (lapOf q s x).2.2.1.length ≤ x.length := findN_bound (lapEnd_length q s x) _ _
theorem spec_lap (q s : Int) (x : List S41) (hx : x.length ≤ 1048576) : Ev (fun k => spec_LapPath.f k q s x) (lapOf q s x) := by
  have loop : ∀ d i : Nat, i + d = x.length → Ev (fun k => spec_LapPath.l0 k x (x.length : Int) (i : Int) q s (tab i (lapStep x)) (lapF x i) (lapB x i)) (findN (fun j => !boxOk (rd_T41 x (j : Int))) (fun _ => (0, 0, [], 0, 0)) (lapEnd q s x) d i) := by
    intro d
    induction d with
    | zero =>
      intro i hi
      refine Ev.succ ?_
      simp only [spec_LapPath.l0]
      refine Ev.ite_neg (by omega) ?_
      rw [show i = x.length by omega]
      refine Ev.bind (spec_pathOk q s _ _ _) ?_
      simp only [findN]
      unfold lapEnd
      by_cases h2 : pathOk q s (tab x.length (lapStep x)) (lapF x x.length) (lapB x x.length) = true
      · exact Ev.cast (Ev.ite_pos h2 (Ev.val _)) (if_pos h2).symm
      · exact Ev.cast (Ev.ite_neg h2 (Ev.val _)) (if_neg h2).symm
    | succ d ih =>
      intro i hi
      refine Ev.succ ?_
      simp only [spec_LapPath.l0, spec_box, Option.bind_some, min_lap]
      refine Ev.ite_pos (by omega) (Ev.ite_pos (by omega) (Ev.ite_pos (by omega) ?_))
      simp only [findN]
      by_cases hb : boxOk (rd_T41 x (i : Int)) = true
      · rw [hb]
        refine Ev.ite_pos rfl ?_
        rw [if_neg (by decide)]
        rw [w64 (show -9223372036854775808 ≤ (i : Int) + 1 by omega) (by omega), w64 (show -9223372036854775808 ≤ (i : Int) - 1 by omega) (by omega)]
        have next := ih (i + 1) (by omega)
        rw [← tab_snoc, show (((i + 1 : Nat)) : Int) = (i : Int) + 1 by omega] at next
        by_cases h0 : i = 0
        · refine Ev.ite_neg (by omega) (Ev.ite_pos (by rw [tab_length]; omega) ?_)
          rw [show lapStep x i = _ from rfl] at next
          unfold lapStep at next
          rw [if_pos h0] at next
          exact next
        · refine Ev.ite_pos (by omega) (Ev.ite_pos (by omega) (Ev.ite_pos (by omega) (Ev.ite_pos (by rw [tab_length]; omega) ?_)))
          have e : lapStep x i = ⟨(rd_T41 x (i : Int)).f0, (rd_T41 x (i : Int)).f1, (rd_T41 x (i : Int)).f2, (rd_T41 x (i : Int)).f3, (rd_T41 x (i : Int)).f4, min (wrap64 ((rd_T41 x ((i : Int) - 1)).f5 + 1)) (rd_T41 x (i : Int)).f5, false⟩ := by unfold lapStep; rw [if_neg h0]
          rw [e] at next
          exact next
      · refine Ev.ite_neg hb ?_
        rw [Bool.eq_false_iff.2 hb]
        exact Ev.val _
  exact loop x.length 0 (by omega)
theorem impl_lap (q s : Int) (x : List S41) (hx : x.length ≤ 1048576) : Ev (fun k => impl_LapPath.f k q s x) (lapOf q s x) := by
  have loop : ∀ d i : Nat, i + d = x.length → Ev (fun k => impl_LapPath.l0 k x x (x.length : Int) (i : Int) q s (tab i (lapStep x)) (lapF x i) (lapB x i)) (findN (fun j => !boxOk (rd_T41 x (j : Int))) (fun _ => (0, 0, [], 0, 0)) (lapEnd q s x) d i) := by
    intro d
    induction d with
    | zero =>
      intro i hi
      refine Ev.succ ?_
      simp only [impl_LapPath.l0]
      refine Ev.ite_neg (by omega) ?_
      rw [show i = x.length by omega]
      refine Ev.bind (impl_pathOk q s _ _ _) ?_
      simp only [findN]
      unfold lapEnd
      by_cases h2 : pathOk q s (tab x.length (lapStep x)) (lapF x x.length) (lapB x x.length) = true
      · exact Ev.cast (Ev.ite_pos h2 (Ev.val _)) (if_pos h2).symm
      · exact Ev.cast (Ev.ite_neg h2 (Ev.val _)) (if_neg h2).symm
    | succ d ih =>
      intro i hi
      refine Ev.succ ?_
      simp only [impl_LapPath.l0, impl_box, Option.bind_some, mn_min]
      refine Ev.ite_pos (by omega) (Ev.ite_pos (by omega) (Ev.ite_pos (by omega) ?_))
      simp only [findN]
      by_cases hb : boxOk (rd_T41 x (i : Int)) = true
      · rw [hb]
        refine Ev.ite_pos rfl ?_
        rw [if_neg (by decide)]
        rw [w64 (show -9223372036854775808 ≤ (i : Int) + 1 by omega) (by omega), w64 (show -9223372036854775808 ≤ (i : Int) - 1 by omega) (by omega)]
        have next := ih (i + 1) (by omega)
        rw [← tab_snoc, show (((i + 1 : Nat)) : Int) = (i : Int) + 1 by omega] at next
        by_cases h0 : i = 0
        · refine Ev.ite_neg (by omega) (Ev.ite_pos (by rw [tab_length]; omega) ?_)
          have e : lapStep x i = ⟨(rd_T41 x (i : Int)).f0, (rd_T41 x (i : Int)).f1, (rd_T41 x (i : Int)).f2, (rd_T41 x (i : Int)).f3, (rd_T41 x (i : Int)).f4, (rd_T41 x (i : Int)).f5, false⟩ := by unfold lapStep; rw [if_pos h0]
          rw [e] at next
          exact next
        · refine Ev.ite_pos (by omega) (Ev.ite_pos (by omega) (Ev.ite_pos (by omega) (Ev.ite_pos (by rw [tab_length]; omega) ?_)))
          have e : lapStep x i = ⟨(rd_T41 x (i : Int)).f0, (rd_T41 x (i : Int)).f1, (rd_T41 x (i : Int)).f2, (rd_T41 x (i : Int)).f3, (rd_T41 x (i : Int)).f4, min (rd_T41 x (i : Int)).f5 (wrap64 ((rd_T41 x ((i : Int) - 1)).f5 + 1)), false⟩ := by unfold lapStep; rw [if_neg h0, Int.min_comm]
          rw [e] at next
          exact next
      · refine Ev.ite_neg hb ?_
        rw [Bool.eq_false_iff.2 hb]
        exact Ev.val _
  exact loop x.length 0 (by omega)
theorem FnExactLapPath : Said := by
  intro q s x _ ⟨hm, _⟩
  refine Ev.rounds (r := true) ?_
  unfold laws_FnExactLapPath.f
  rw [szHandBoxS_eq x hm 1048576 (by omega) (by omega)]
  simp only [Option.bind_some]
  by_cases h : (x.length : Int) ≤ 1048576
  · have hl : x.length ≤ 1048576 := by omega
    have hl' : (x.map conv_toHandBoxS).length ≤ 1048576 := by rw [List.length_map]; exact hl
    have hn := lapOf_length q s (x.map conv_toHandBoxS)
    have hn' : (lapOf q s (x.map conv_toHandBoxS)).2.2.1.length ≤ 1048576 := by omega
    rw [if_pos h]
    simp only [laws_toFlyKind.f, Option.bind_some]
    refine Ev.ite_neg (by omega) (Ev.bind (toHandBoxS_ev x hl) (Ev.bind (spec_lap q s (x.map conv_toHandBoxS) hl') (Ev.bind (toHandBoxS_ev x hl) (Ev.bind (impl_lap q s (x.map conv_toHandBoxS) hl') (Ev.bind (eqFlyPath_ev _ _ _ _ _ hn') (Ev.ite_pos rfl ?_))))))
    refine Ev.bind (toHandBoxS_ev x hl) (Ev.bind (eqHandBoxS_ev _ hl') (Ev.ite_pos rfl (Ev.bind (markHandBoxS_ev _ hl') (Ev.ite_neg (by omega) (Ev.bind (eqFlyPath_ev _ _ _ _ _ hn') (Ev.succ ?_))))))
    simp only [laws_FnExactLapPath.j0, laws_toFlyKind.f, Option.bind_some]
    refine Ev.ite_neg (by simp) (Ev.bind (markFlyPath_ev _ _ _ _ _ hn') (Ev.bind (heldFlyPath_ev _ _ _ _ _ hn') (Ev.ite_neg (by omega) (Ev.ite_pos rfl (Ev.bind (toHandBoxS_ev x hl) (Ev.bind (impl_lap q s (x.map conv_toHandBoxS) hl') (Ev.bind (eqFlyPath_ev _ _ _ _ _ hn') (Ev.ite_pos rfl ?_))))))))
    exact Ev.bind (heldFlyPath_ev _ _ _ _ _ hn') (Ev.ite_neg (by omega) (Ev.ite_pos rfl (Ev.val _)))
  · rw [if_neg h]
    exact Ev.ite_pos (by omega) (Ev.val _)
end Go.Proofs.Ytbmplfpnhjhoiaa.Pure
