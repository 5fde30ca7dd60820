/-
  The law FnFlyTight over numbers and lists: each tick of a span is that of some flight, and at each tick of a box some flight is in it.
-/
import Derived.Test.YtidoahlbaeiemaaStdFnFlyTight
namespace Go.Proofs.Ytidoahlbaeiemaa.Pure
open Go.RowKit Go.Proofs.Ytidoahlbaeiemaa.QFnFlyTight Go.Proofs.YtidoahlbaeiemaaW.PrintWords Go.Proofs.Ytidoahlbaeiemaa.Kit Go.Proofs.Ytidoahlbaeiemaa.StdFnFlyTight
set_option linter.unusedSimpArgs false
set_option linter.unusedVariables false
/-! #### a path that is ok, said once -/
def kindOk (q s : Int) : Bool := decide (1 ≤ q ∧ q ≤ s ∧ s ≤ 50)
def winOk (f b : Int) : Bool := decide (0 ≤ f ∧ f ≤ b ∧ b ≤ 10000)
def stepOk (x : S52) : Bool := decide ((0 ≤ x.f0 ∧ x.f0 ≤ 15) ∧ (0 ≤ x.f1 ∧ x.f1 ≤ 15) ∧ (0 ≤ x.f2 ∧ x.f2 ≤ x.f3 ∧ x.f3 ≤ 6) ∧ 0 ≤ x.f4 ∧ x.f4 ≤ x.f5 ∧ x.f5 ≤ 10000)
def nextOk (a x : S52) : Bool := decide ((-1 ≤ a.f0 - x.f0 ∧ a.f0 - x.f0 ≤ 1) ∧ (-1 ≤ a.f1 - x.f1 ∧ a.f1 - x.f1 ≤ 1) ∧ (a.f0 = x.f0 → a.f1 ≠ x.f1) ∧ a.f2 ≤ x.f3 ∧ x.f2 ≤ a.f3)
def placeOk (l : List S52) (j : Nat) : Bool := stepOk (rd_T52 l (j : Int)) && (decide (j = 0) || nextOk (rd_T52 l ((j : Int) - 1)) (rd_T52 l (j : Int)))
def pathOk (q s : Int) (l : List S52) (f b : Int) : Bool := kindOk q s && (decide (1 ≤ l.length ∧ l.length ≤ 40) && (winOk f b && allN (placeOk l) l.length 0))
theorem stepOk_iff (x : S52) : stepOk x = true ↔ ((0 ≤ x.f0 ∧ x.f0 ≤ 15) ∧ (0 ≤ x.f1 ∧ x.f1 ≤ 15) ∧ (0 ≤ x.f2 ∧ x.f2 ≤ x.f3 ∧ x.f3 ≤ 6) ∧ 0 ≤ x.f4 ∧ x.f4 ≤ x.f5 ∧ x.f5 ≤ 10000) := decide_eq_true_iff
theorem nextOk_iff (a x : S52) : nextOk a x = true ↔ ((-1 ≤ a.f0 - x.f0 ∧ a.f0 - x.f0 ≤ 1) ∧ (-1 ≤ a.f1 - x.f1 ∧ a.f1 - x.f1 ≤ 1) ∧ (a.f0 = x.f0 → a.f1 ≠ x.f1) ∧ a.f2 ≤ x.f3 ∧ x.f2 ≤ a.f3) := decide_eq_true_iff
theorem pathOk_facts {q s : Int} {l : List S52} {f b : Int} (h : pathOk q s l f b = true) : (1 ≤ q ∧ q ≤ s ∧ s ≤ 50) ∧ (1 ≤ l.length ∧ l.length ≤ 40) ∧ (0 ≤ f ∧ f ≤ b ∧ b ≤ 10000) ∧ ∀ j : Nat, j < l.length → stepOk (rd_T52 l (j : Int)) = true := by
  unfold pathOk at h
  rw [Bool.and_eq_true, Bool.and_eq_true, Bool.and_eq_true] at h
  obtain ⟨h1, h2, h3, h4⟩ := h
  refine ⟨of_decide_eq_true h1, of_decide_eq_true h2, of_decide_eq_true h3, fun j hj => ?_⟩
  have := (allN_iff _ _).1 h4 j (by omega) (by omega)
  unfold placeOk at this
  rw [Bool.and_eq_true] at this
  exact this.1
/-- The window of the i-th tick of a flight: that of step i, or of the path. -/
def loAt (l : List S52) (f : Int) (i : Int) : Int := if i < (l.length : Int) then (rd_T52 l i).f4 else f
def hiAt (l : List S52) (b : Int) (i : Int) : Int := if i < (l.length : Int) then (rd_T52 l i).f5 else b
theorem loAt_range {q s : Int} {l : List S52} {f b : Int} (h : pathOk q s l f b = true) (i : Nat) : 0 ≤ loAt l f i ∧ loAt l f i ≤ hiAt l b i ∧ hiAt l b i ≤ 10000 := by
  obtain ⟨_, _, h3, h4⟩ := pathOk_facts h
  unfold loAt hiAt
  by_cases hi : (i : Int) < (l.length : Int)
  · rw [if_pos hi, if_pos hi]
    have := (stepOk_iff _).1 (h4 i (by omega))
    omega
  · rw [if_neg hi, if_neg hi]
    omega
theorem spec_in (a b c : Int) : spec_l21In.f a b c = some (decide (b ≤ a ∧ a ≤ c)) := by
  unfold spec_l21In.f
  by_cases h : a ≥ b <;> simp [h]
theorem spec_kind (q s : Int) : spec_FlyKindOk.f q s = some (kindOk q s) := by
  unfold spec_FlyKindOk.f kindOk
  rw [spec_in]
  simp only [Option.bind_some]
  by_cases h1 : 1 ≤ q <;> by_cases h2 : q ≤ s <;> simp [h1, h2]
theorem spec_step (x : S52) : spec_l22StepOk.f x.f0 x.f1 x.f2 x.f3 x.f4 x.f5 x.f6 = some (stepOk x) := by
  unfold spec_l22StepOk.f stepOk
  simp only [spec_in, Option.bind_some, decide_eq_true_eq]
  by_cases h0 : 0 ≤ x.f0 ∧ x.f0 ≤ 15
  · rw [if_pos h0]
    by_cases h1 : 0 ≤ x.f1 ∧ x.f1 ≤ 15
    · rw [if_pos h1]
      by_cases h2 : 0 ≤ x.f2 ∧ x.f2 ≤ x.f3
      · rw [if_pos h2]
        by_cases h3 : x.f3 ≤ 6
        · rw [if_pos h3]
          by_cases h4 : 0 ≤ x.f4 ∧ x.f4 ≤ x.f5
          · rw [if_pos h4]
            congr 1
            apply decide_eq_decide.2
            omega
          · rw [if_neg h4]
            congr 1
            symm
            apply decide_eq_false
            omega
        · rw [if_neg h3]
          congr 1
          symm
          apply decide_eq_false
          omega
      · rw [if_neg h2]
        congr 1
        symm
        apply decide_eq_false
        omega
    · rw [if_neg h1]
      congr 1
      symm
      apply decide_eq_false
      omega
  · rw [if_neg h0]
    congr 1
    symm
    apply decide_eq_false
    omega
theorem spec_next (a x : S52) (ha : stepOk a = true) (hx : stepOk x = true) : spec_l22Next.f a.f0 a.f1 a.f2 a.f3 a.f4 a.f5 a.f6 x.f0 x.f1 x.f2 x.f3 x.f4 x.f5 x.f6 = some (nextOk a x) := by
  have ha := (stepOk_iff a).1 ha
  have hx := (stepOk_iff x).1 hx
  unfold spec_l22Next.f nextOk
  rw [w64 (show -9223372036854775808 ≤ a.f0 - x.f0 by omega) (by omega), w64 (show -9223372036854775808 ≤ a.f1 - x.f1 by omega) (by omega)]
  simp only [spec_in, Option.bind_some, decide_eq_true_eq]
  repeat' split
  all_goals first | (congr 1; apply decide_eq_decide.2; omega) | (congr 1; symm; apply decide_eq_false; omega)
def specPlace (l : List S52) (j : Nat) : Bool := stepOk (rd_T52 l (j : Int)) && (decide (j = 0) || decide (spec_l22Next.f (rd_T52 l ((j : Int) - 1)).f0 (rd_T52 l ((j : Int) - 1)).f1 (rd_T52 l ((j : Int) - 1)).f2 (rd_T52 l ((j : Int) - 1)).f3 (rd_T52 l ((j : Int) - 1)).f4 (rd_T52 l ((j : Int) - 1)).f5 (rd_T52 l ((j : Int) - 1)).f6 (rd_T52 l (j : Int)).f0 (rd_T52 l (j : Int)).f1 (rd_T52 l (j : Int)).f2 (rd_T52 l (j : Int)).f3 (rd_T52 l (j : Int)).f4 (rd_T52 l (j : Int)).f5 (rd_T52 l (j : Int)).f6 = some true))
theorem next_some (a0 a1 a2 a3 a4 a5 : Int) (a6 : Bool) (x0 x1 x2 x3 x4 x5 : Int) (x6 : Bool) : ∃ t, spec_l22Next.f a0 a1 a2 a3 a4 a5 a6 x0 x1 x2 x3 x4 x5 x6 = some t := by
  unfold spec_l22Next.f
  simp only [spec_in, Option.bind_some]
  repeat' split
  all_goals exact ⟨_, rfl⟩
theorem spec_places (l : List S52) : allN (specPlace l) l.length 0 = allN (placeOk l) l.length 0 := by
  refine allN_hist _ _ (fun j _ _ hh => ?_)
  unfold specPlace placeOk
  by_cases hs : stepOk (rd_T52 l (j : Int)) = true
  · rw [hs]
    by_cases h0 : j = 0
    · simp [h0]
    · have hp := hh (j - 1) (by omega) (by omega)
      unfold specPlace at hp
      rw [Bool.and_eq_true] at hp
      have hp := hp.1
      rw [show (((j - 1 : Nat) : Int)) = (j : Int) - 1 by omega] at hp
      rw [spec_next _ _ hp hs]
      simp
  · rw [Bool.eq_false_iff.2 hs]
    simp
theorem spec_pathOk (q s : Int) (l : List S52) (f b : Int) : Ev (fun k => spec_FlyPathOk.f k q s l f b) (pathOk q s l f b) := by
  unfold spec_FlyPathOk.f pathOk
  have bad : Ev (fun k => spec_FlyPathOk.j0 k true q s l f b) false := Ev.step (fun k => (by simp only [spec_FlyPathOk.j0]; exact if_pos trivial)) (Ev.val _)
  simp only [spec_kind, spec_in, Option.bind_some]
  by_cases h1 : kindOk q s = true
  · rw [h1]
    refine Ev.ite_pos rfl ?_
    by_cases h2 : 1 ≤ l.length ∧ l.length ≤ 40
    · rw [decide_eq_true h2]
      refine Ev.ite_pos (by rw [decide_eq_true_eq]; omega) ?_
      by_cases h3 : 0 ≤ f ∧ f ≤ b
      · refine Ev.ite_pos (by rw [decide_eq_true_eq]; exact h3) ?_
        refine Ev.succ ?_
        simp only [spec_FlyPathOk.j0]
        by_cases h4 : b > 10000
        · refine Ev.ite_pos (decide_eq_true h4) (Ev.cast (Ev.val _) ?_)
          have : winOk f b = false := decide_eq_false (by omega)
          rw [this]; rfl
        · refine Ev.ite_neg (by simpa using h4) ?_
          have : winOk f b = true := decide_eq_true (by omega)
          rw [this, ← spec_places]
          have key := find_loop (F := fun k i => spec_FlyPathOk.l0 k i q s l f b) l.length (fun j => !specPlace l j) (fun _ => false) true ?_ ?_ ?_ l.length 0 (by omega)
          · exact key
          · intro i hi hp
            refine Ev.step (fun k => ?_) (Ev.val _)
            simp only [spec_FlyPathOk.l0, if_pos (show (i : Int) < (l.length : Int) by omega), if_pos (show (0 : Int) ≤ i by omega), spec_step, Option.bind_some]
            unfold specPlace at hp
            by_cases hs : stepOk (rd_T52 l (i : Int)) = true
            · rw [hs] at hp ⊢
              rw [if_pos rfl]
              by_cases hi0 : i = 0
              · simp [hi0] at hp
              · rw [if_pos (show (i : Int) > 0 by omega), w64 (show -9223372036854775808 ≤ (i : Int) - 1 by omega) (by omega), if_pos (by omega), if_pos (by omega)]
                obtain ⟨t, ht⟩ := next_some (rd_T52 l ((i : Int) - 1)).f0 (rd_T52 l ((i : Int) - 1)).f1 (rd_T52 l ((i : Int) - 1)).f2 (rd_T52 l ((i : Int) - 1)).f3 (rd_T52 l ((i : Int) - 1)).f4 (rd_T52 l ((i : Int) - 1)).f5 (rd_T52 l ((i : Int) - 1)).f6 (rd_T52 l (i : Int)).f0 (rd_T52 l (i : Int)).f1 (rd_T52 l (i : Int)).f2 (rd_T52 l (i : Int)).f3 (rd_T52 l (i : Int)).f4 (rd_T52 l (i : Int)).f5 (rd_T52 l (i : Int)).f6
                rw [ht] at hp ⊢
                simp only [Option.bind_some]
                have : t = false := by simpa [hi0] using hp
                rw [this]
                rfl
            · rw [if_neg hs]
          · intro i hi hp r' hr
            refine Ev.step (fun k => ?_) hr
            simp only [spec_FlyPathOk.l0, if_pos (show (i : Int) < (l.length : Int) by omega), if_pos (show (0 : Int) ≤ i by omega), spec_step, Option.bind_some]
            unfold specPlace at hp
            by_cases hs : stepOk (rd_T52 l (i : Int)) = true
            · rw [hs] at hp ⊢
              rw [if_pos rfl]
              by_cases hi0 : i = 0
              · rw [if_neg (by omega), w64 (by omega) (by omega)]
              · rw [if_pos (show (i : Int) > 0 by omega), w64 (show -9223372036854775808 ≤ (i : Int) - 1 by omega) (by omega), if_pos (by omega), if_pos (by omega)]
                obtain ⟨t, ht⟩ := next_some (rd_T52 l ((i : Int) - 1)).f0 (rd_T52 l ((i : Int) - 1)).f1 (rd_T52 l ((i : Int) - 1)).f2 (rd_T52 l ((i : Int) - 1)).f3 (rd_T52 l ((i : Int) - 1)).f4 (rd_T52 l ((i : Int) - 1)).f5 (rd_T52 l ((i : Int) - 1)).f6 (rd_T52 l (i : Int)).f0 (rd_T52 l (i : Int)).f1 (rd_T52 l (i : Int)).f2 (rd_T52 l (i : Int)).f3 (rd_T52 l (i : Int)).f4 (rd_T52 l (i : Int)).f5 (rd_T52 l (i : Int)).f6
                rw [ht] at hp ⊢
                simp only [Option.bind_some]
                have : t = true := by simpa [hi0] using hp
                rw [this, if_pos rfl, w64 (by omega) (by omega)]
            · simp [hs] at hp
          · refine Ev.step (fun k => ?_) (Ev.val _)
            simp only [spec_FlyPathOk.l0]
            rw [if_neg (by omega)]
      · refine Ev.ite_neg (by rw [decide_eq_true_eq]; exact h3) (Ev.cast bad ?_)
        have : winOk f b = false := decide_eq_false (by omega)
        rw [this]; rfl
    · rw [decide_eq_false h2]
      exact Ev.ite_neg (by rw [decide_eq_true_eq]; omega) bad
  · rw [Bool.eq_false_iff.2 h1]
    exact Ev.ite_neg (by decide) bad
theorem impl_in (a b c : Int) : impl_within.f a b c = some (decide (b ≤ a ∧ a ≤ c)) := by
  unfold impl_within.f
  by_cases h : a ≥ b <;> simp [h]
theorem impl_kind (q s : Int) : impl_FlyKindOk.f q s = some (kindOk q s) := by
  unfold impl_FlyKindOk.f kindOk
  by_cases h1 : 1 ≤ q <;> by_cases h2 : q ≤ s <;> simp [h1, h2]
theorem impl_win (f b : Int) : impl_window.f f b = some (winOk f b) := by
  unfold impl_window.f winOk
  by_cases h1 : 0 ≤ f <;> by_cases h2 : f ≤ b <;> simp [h1, h2]
def distW (a b : Int) : Int := if a > b then wrap64 (a - b) else wrap64 (b - a)
theorem impl_distW (a b : Int) : impl_dist.f a b = some (distW a b) := by
  unfold impl_dist.f distW
  split <;> rfl
def nextW (a x : S52) : Bool := decide ((a.f0 = x.f0 → a.f1 ≠ x.f1) ∧ distW a.f0 x.f0 ≤ 1 ∧ distW a.f1 x.f1 ≤ 1 ∧ a.f2 ≤ x.f3 ∧ x.f2 ≤ a.f3)
theorem nextW_eq (a x : S52) (ha : stepOk a = true) (hx : stepOk x = true) : nextW a x = nextOk a x := by
  have ha := (stepOk_iff a).1 ha
  have hx := (stepOk_iff x).1 hx
  unfold nextW nextOk
  have d : ∀ p r : Int, 0 ≤ p → p ≤ 15 → 0 ≤ r → r ≤ 15 → (distW p r ≤ 1 ↔ -1 ≤ p - r ∧ p - r ≤ 1) := by
    intro p r _ _ _ _
    unfold distW
    by_cases h : p > r
    · rw [if_pos h, w64 (by omega) (by omega)]; omega
    · rw [if_neg h, w64 (by omega) (by omega)]; omega
  have d0 := d a.f0 x.f0 (by omega) (by omega) (by omega) (by omega)
  have d1 := d a.f1 x.f1 (by omega) (by omega) (by omega) (by omega)
  apply decide_eq_decide.2
  rw [d0, d1]
  omega
def implPlace (l : List S52) (j : Nat) : Bool := stepOk (rd_T52 l (j : Int)) && (decide (j = 0) || nextW (rd_T52 l ((j : Int) - 1)) (rd_T52 l (j : Int)))
theorem impl_places (l : List S52) : allN (implPlace l) l.length 0 = allN (placeOk l) l.length 0 := by
  refine allN_hist _ _ (fun j _ _ hh => ?_)
  unfold implPlace placeOk
  by_cases hs : stepOk (rd_T52 l (j : Int)) = true
  · rw [hs]
    by_cases h0 : j = 0
    · simp [h0]
    · have hp := hh (j - 1) (by omega) (by omega)
      unfold implPlace at hp
      rw [Bool.and_eq_true] at hp
      have hp := hp.1
      rw [show (((j - 1 : Nat) : Int)) = (j : Int) - 1 by omega] at hp
      rw [nextW_eq _ _ hp hs]
  · rw [Bool.eq_false_iff.2 hs]
    simp
theorem impl_round (q s : Int) (l : List S52) (f b : Int) (i : Nat) (hi : i < l.length) (k : Nat) : impl_FlyPathOk.l0 (k + 1) l (l.length : Int) i q s l f b =
    impl_FlyPathOk.j2 k i l (l.length : Int) i (!stepOk (rd_T52 l (i : Int))) q s l f b (rd_T52 l (i : Int)).f0 (rd_T52 l (i : Int)).f1 (rd_T52 l (i : Int)).f2 (rd_T52 l (i : Int)).f3 (rd_T52 l (i : Int)).f4 (rd_T52 l (i : Int)).f5 (rd_T52 l (i : Int)).f6 := by
  simp only [impl_FlyPathOk.l0, if_pos (show (i : Int) < (l.length : Int) by omega), if_pos (show (0 : Int) ≤ i by omega), impl_in, impl_win, Option.bind_some, decide_eq_true_eq]
  generalize rd_T52 l (i : Int) = x
  have e : ∀ c : Bool, c = stepOk x → ∀ {α : Type} (g : Bool → α), g (!c) = g (!stepOk x) := fun c h α g => by rw [h]
  by_cases h0 : 0 ≤ x.f0 ∧ x.f0 ≤ 15
  · rw [if_pos h0]
    by_cases h1 : 0 ≤ x.f1 ∧ x.f1 ≤ 15
    · rw [if_pos h1]
      by_cases h2 : 0 ≤ x.f2
      · rw [if_pos h2]
        by_cases h3 : x.f2 ≤ x.f3
        · rw [if_pos h3]
          by_cases h4 : x.f3 ≤ 6
          · rw [if_pos h4]
            have : winOk x.f4 x.f5 = stepOk x := by
              unfold winOk stepOk
              apply decide_eq_decide.2
              omega
            rw [this]
          · rw [if_neg h4, show stepOk x = false from decide_eq_false (by omega)]; rfl
        · rw [if_neg h3, show stepOk x = false from decide_eq_false (by omega)]; rfl
      · rw [if_neg h2, show stepOk x = false from decide_eq_false (by omega)]; rfl
    · rw [if_neg h1, show stepOk x = false from decide_eq_false (by omega)]; rfl
  · rw [if_neg h0, show stepOk x = false from decide_eq_false (by omega)]; rfl
theorem impl_second (q s : Int) (l : List S52) (f b : Int) (i : Nat) (hi : i < l.length) (h0 : i ≠ 0) (x : S52) (k : Nat) (hl : l.length ≤ 40) : impl_FlyPathOk.j2 (k + 1) i l (l.length : Int) i false q s l f b x.f0 x.f1 x.f2 x.f3 x.f4 x.f5 x.f6 =
    if nextW (rd_T52 l ((i : Int) - 1)) x = true then impl_FlyPathOk.l0 k l (l.length : Int) ((i : Int) + 1) q s l f b else some false := by
  simp only [impl_FlyPathOk.j2, impl_distW, Option.bind_some]
  rw [if_neg (show ¬ (false = true) by decide), if_neg (show ¬ (i : Int) = 0 by omega), w64 (show -9223372036854775808 ≤ (i : Int) - 1 by omega) (by omega), if_pos (by omega), if_pos (by omega), w64 (show -9223372036854775808 ≤ (i : Int) + 1 by omega) (by omega)]
  generalize rd_T52 l ((i : Int) - 1) = a
  generalize impl_FlyPathOk.l0 k l (l.length : Int) ((i : Int) + 1) q s l f b = r
  unfold nextW
  simp only [decide_eq_true_eq]
  by_cases c0 : a.f0 = x.f0
  · rw [if_pos c0]
    by_cases c1 : a.f1 = x.f1
    · rw [if_pos c1, if_neg (fun h => h.1 c0 c1)]
    · rw [if_neg c1]
      repeat' split
      all_goals first | rfl | (exfalso; omega)
  · rw [if_neg c0]
    repeat' split
    all_goals first | rfl | (exfalso; omega)
theorem impl_pathOk (q s : Int) (l : List S52) (f b : Int) : Ev (fun k => impl_FlyPathOk.f k q s l f b) (pathOk q s l f b) := by
  unfold impl_FlyPathOk.f pathOk
  have bad : Ev (fun k => impl_FlyPathOk.j0 k true q s l f b) false := Ev.step (fun k => (by simp only [impl_FlyPathOk.j0]; exact if_pos trivial)) (Ev.val _)
  simp only [impl_kind, impl_in, impl_win, Option.bind_some]
  by_cases h1 : kindOk q s = true
  · rw [h1]
    refine Ev.ite_pos rfl ?_
    by_cases h2 : 1 ≤ l.length ∧ l.length ≤ 40
    · rw [decide_eq_true h2]
      refine Ev.ite_pos (by rw [decide_eq_true_eq]; omega) ?_
      refine Ev.succ ?_
      simp only [impl_FlyPathOk.j0]
      by_cases h3 : winOk f b = true
      · rw [h3, ← impl_places]
        refine Ev.ite_neg (by decide) ?_
        have key := find_loop (F := fun k i => impl_FlyPathOk.l0 k l (l.length : Int) i q s l f b) l.length (fun j => !implPlace l j) (fun _ => false) true ?_ ?_ ?_ l.length 0 (by omega)
        · exact key
        · intro i hi hp
          refine Ev.step (impl_round q s l f b i hi) ?_
          unfold implPlace at hp
          refine Ev.succ ?_
          by_cases hs : stepOk (rd_T52 l (i : Int)) = true
          · rw [hs] at hp ⊢
            by_cases hi0 : i = 0
            · simp [hi0] at hp
            · refine Ev.congr (fun k => impl_second q s l f b i hi hi0 _ k h2.2) ?_
              refine Ev.ite_neg ?_ (Ev.val _)
              simpa [hi0] using hp
          · rw [Bool.eq_false_iff.2 hs]
            simp only [impl_FlyPathOk.j2]
            exact Ev.ite_pos rfl (Ev.val _)
        · intro i hi hp r' hr
          refine Ev.step (impl_round q s l f b i hi) ?_
          unfold implPlace at hp
          refine Ev.succ ?_
          by_cases hs : stepOk (rd_T52 l (i : Int)) = true
          · rw [hs] at hp ⊢
            by_cases hi0 : i = 0
            · subst hi0
              simp only [impl_FlyPathOk.j2]
              refine Ev.ite_neg (by decide) (Ev.ite_pos rfl ?_)
              rw [w64 (by omega) (by omega)]
              exact hr
            · refine Ev.congr (fun k => impl_second q s l f b i hi hi0 _ k h2.2) ?_
              refine Ev.ite_pos ?_ hr
              simpa [hi0] using hp
          · simp [hs] at hp
        · refine Ev.step (fun k => ?_) (Ev.val _)
          simp only [impl_FlyPathOk.l0]
          rw [if_neg (by omega)]
      · rw [Bool.eq_false_iff.2 h3]
        exact Ev.ite_pos rfl (Ev.val _)
    · rw [decide_eq_false h2]
      exact Ev.ite_neg (by rw [decide_eq_true_eq]; omega) bad
  · rw [Bool.eq_false_iff.2 h1]
    exact Ev.ite_neg (by decide) bad
theorem spec_low (q s : Int) (l : List S52) (f b : Int) (i : Int) (h : 0 ≤ i) : spec_l23Low.f q s l f b i = some (loAt l f i) := by
  unfold spec_l23Low.f loAt
  by_cases hi : i < (l.length : Int)
  · rw [if_pos hi, if_pos h, if_pos hi]
  · rw [if_neg hi, if_neg hi]
theorem spec_high (q s : Int) (l : List S52) (f b : Int) (i : Int) (h : 0 ≤ i) : spec_l23High.f q s l f b i = some (hiAt l b i) := by
  unfold spec_l23High.f hiAt
  by_cases hi : i < (l.length : Int)
  · rw [if_pos hi, if_pos h, if_pos hi]
  · rw [if_neg hi, if_neg hi]
def mostAt (s : Int) (l : List S52) (i : Int) : Int := if (rd_T52 l i).f6 = true then 10000 else s
theorem spec_most (q s : Int) (l : List S52) (f b : Int) (i : Int) (h : 0 ≤ i) (hi : i < (l.length : Int)) : spec_l23Most.f q s l f b i = some (mostAt s l i) := by
  unfold spec_l23Most.f mostAt
  rw [if_pos h, if_pos hi]
  split <;> rfl
theorem impl_bound (q s : Int) (l : List S52) (f b : Int) (i : Int) (h : 0 ≤ i) (hi : i ≤ (l.length : Int)) : impl_FlyPath_bound.f q s l f b i = some (loAt l f i, hiAt l b i) := by
  unfold impl_FlyPath_bound.f loAt hiAt
  by_cases e : i = (l.length : Int)
  · rw [if_pos e, if_neg (by omega), if_neg (by omega)]
  · rw [if_neg e, if_pos h, if_pos (by omega), if_pos (by omega), if_pos (by omega)]
/-! #### spans: forward, then back -/
section
variable (w : Int → Int) (A B : Nat → Int) (q s : Int) (h : Nat → Bool) (n : Nat)
def fwdL : Nat → Int
  | 0 => A 0
  | k + 1 => max (A (k + 1)) (w (fwdL k + q))
def fwdH : Nat → Int
  | 0 => B 0
  | k + 1 => if h k = true then B (k + 1) else min (B (k + 1)) (w (fwdH k + s))
/-- d places ahead of the last one. -/
def bwdL : Nat → Int
  | 0 => fwdL w A q n
  | d + 1 => if h (n - (d + 1)) = true then fwdL w A q (n - (d + 1)) else max (fwdL w A q (n - (d + 1))) (w (bwdL d - s))
def bwdH : Nat → Int
  | 0 => fwdH w B s h n
  | d + 1 => min (fwdH w B s h (n - (d + 1))) (w (bwdH d - q))
def spanL (k : Nat) : Int := bwdL w A q s h n (n - k)
def spanH (k : Nat) : Int := bwdH w B q s h n (n - k)
theorem spanL_last : spanL w A q s h n n = fwdL w A q n := by unfold spanL; rw [Nat.sub_self]; rfl
theorem spanH_last : spanH w B q s h n n = fwdH w B s h n := by unfold spanH; rw [Nat.sub_self]; rfl
theorem spanL_step (k : Nat) (hk : k < n) : spanL w A q s h n k = if h k = true then fwdL w A q k else max (fwdL w A q k) (w (spanL w A q s h n (k + 1) - s)) := by
  unfold spanL
  obtain ⟨d, hd⟩ : ∃ d, n - (k + 1) = d := ⟨_, rfl⟩
  rw [hd, show n - k = d + 1 by omega]
  simp only [bwdL]
  rw [show n - (d + 1) = k by omega]
theorem spanH_step (k : Nat) (hk : k < n) : spanH w B q s h n k = min (fwdH w B s h k) (w (spanH w B q s h n (k + 1) - q)) := by
  unfold spanH
  obtain ⟨d, hd⟩ : ∃ d, n - (k + 1) = d := ⟨_, rfl⟩
  rw [hd, show n - k = d + 1 by omega]
  simp only [bwdH]
  rw [show n - (d + 1) = k by omega]
theorem fwdL_ge (k : Nat) : A k ≤ fwdL w A q k := by
  cases k with
  | zero => exact Int.le_refl _
  | succ k => simp only [fwdL]; omega
theorem fwdH_le (k : Nat) : fwdH w B s h k ≤ B k := by
  cases k with
  | zero => exact Int.le_refl _
  | succ k =>
    simp only [fwdH]
    split <;> omega
theorem spanL_ge (k : Nat) (hk : k ≤ n) : fwdL w A q k ≤ spanL w A q s h n k := by
  rcases Nat.lt_or_ge k n with hlt | hge
  · rw [spanL_step w A q s h n k hlt]
    split <;> omega
  · rw [show k = n by omega, spanL_last]
    exact Int.le_refl _
theorem spanH_le (k : Nat) (hk : k ≤ n) : spanH w B q s h n k ≤ fwdH w B s h k := by
  rcases Nat.lt_or_ge k n with hlt | hge
  · rw [spanH_step w B q s h n k hlt]
    omega
  · rw [show k = n by omega, spanH_last]
    exact Int.le_refl _
end
abbrev idw (x : Int) : Int := x
/-- A row told place by place. -/
def tab {α : Type} (n : Nat) (g : Nat → α) : List α := (List.range n).map g
theorem tab_length {α : Type} (n : Nat) (g : Nat → α) : (tab n g).length = n := by simp [tab]
theorem tab_get {α : Type} (n : Nat) (g : Nat → α) (i : Nat) (hi : i < n) : (tab n g)[i]? = some (g i) := by simp [tab, hi]
theorem tab_rd (n : Nat) (g : Nat → S37) (i : Nat) (hi : i < n) : rd_T37 (tab n g) (i : Int) = g i := by
  show (tab n g).getD ((i : Int)).toNat _ = g i
  rw [Int.toNat_natCast, List.getD_eq_getElem?_getD, tab_get n g i hi]; rfl
theorem tab_congr {α : Type} (n : Nat) (g g' : Nat → α) (hg : ∀ j, j < n → g j = g' j) : tab n g = tab n g' := by
  apply List.ext_getElem?
  intro j
  rcases Nat.lt_or_ge j n with hj | hj
  · rw [tab_get n g j hj, tab_get n g' j hj, hg j hj]
  · rw [List.getElem?_eq_none (by rw [tab_length]; omega), List.getElem?_eq_none (by rw [tab_length]; omega)]
theorem tab_set {α : Type} (n : Nat) (g : Nat → α) (i : Nat) (v : α) (hi : i < n) : (tab n g).set i v = tab n (fun j => if j = i then v else g j) := by
  apply List.ext_getElem?
  intro j
  rcases Nat.lt_or_ge j n with hj | hj
  · rw [tab_get n _ j hj]
    by_cases e : j = i
    · subst e
      rw [List.getElem?_set_self (by rw [tab_length]; omega), if_pos rfl]
    · rw [List.getElem?_set_ne (Ne.symm e), tab_get n g j hj, if_neg e]
  · rw [List.getElem?_eq_none (by rw [List.length_set, tab_length]; omega), List.getElem?_eq_none (by rw [tab_length]; omega)]
theorem tab_snoc {α : Type} (n : Nat) (g : Nat → α) : tab n g ++ [g n] = tab (n + 1) g := by simp [tab, List.range_succ]
def spansOk (w : Int → Int) (A B : Nat → Int) (q s : Int) (h : Nat → Bool) (n : Nat) : Bool := allN (fun k => decide (spanL w A q s h n k ≤ spanH w B q s h n k)) (n + 1) 0
def spansR (w : Int → Int) (A B : Nat → Int) (q s : Int) (h : Nat → Bool) (n : Nat) : List S37 × Bool :=
  if spansOk w A B q s h n = true then (tab (n + 1) (fun k => (⟨spanL w A q s h n k, spanH w B q s h n k⟩ : S37)), true) else ([], false)
theorem spansOk_iff (w : Int → Int) (A B : Nat → Int) (q s : Int) (h : Nat → Bool) (n : Nat) : spansOk w A B q s h n = true ↔ ∀ k, k ≤ n → spanL w A q s h n k ≤ spanH w B q s h n k := by
  unfold spansOk
  rw [allN_iff]
  exact ⟨fun hh k hk => of_decide_eq_true (hh k (by omega) (by omega)), fun hh k _ hk => decide_eq_true (hh k (by omega))⟩
/-- Windows of which none is empty, within the ticks: nothing wraps. -/
theorem spans_wrap (A B : Nat → Int) (q s : Int) (h : Nat → Bool) (n : Nat) (hn : n ≤ 40) (hq : 1 ≤ q ∧ q ≤ s ∧ s ≤ 50) (hw : ∀ k, k ≤ n → 0 ≤ A k ∧ A k ≤ B k ∧ B k ≤ 10000) :
    ∀ k, k ≤ n → spanL wrap64 A q s h n k = spanL idw A q s h n k ∧ spanH wrap64 B q s h n k = spanH idw B q s h n k := by
  have fL : ∀ k, k ≤ n → fwdL wrap64 A q k = fwdL idw A q k ∧ 0 ≤ fwdL idw A q k ∧ fwdL idw A q k ≤ 10000 + 50 * (k : Int) := by
    intro k
    induction k with
    | zero => intro hk; have := hw 0 hk; simp only [fwdL]; exact ⟨by trivial, by omega, by omega⟩
    | succ k ih =>
      intro hk
      obtain ⟨h1, h2, h3⟩ := ih (by omega)
      have := hw (k + 1) hk
      simp only [fwdL, h1, idw]
      rw [w64 (by omega) (by omega)]
      exact ⟨rfl, by omega, by omega⟩
  have fH : ∀ k, k ≤ n → fwdH wrap64 B s h k = fwdH idw B s h k ∧ 0 ≤ fwdH idw B s h k ∧ fwdH idw B s h k ≤ 10000 := by
    intro k
    induction k with
    | zero => intro hk; have := hw 0 hk; simp only [fwdH]; exact ⟨by trivial, by omega, by omega⟩
    | succ k ih =>
      intro hk
      obtain ⟨h1, h2, h3⟩ := ih (by omega)
      have := hw (k + 1) hk
      simp only [fwdH, h1, idw]
      rw [w64 (by omega) (by omega)]
      exact ⟨rfl, by split <;> omega, by split <;> omega⟩
  have bL : ∀ d, d ≤ n → bwdL wrap64 A q s h n d = bwdL idw A q s h n d ∧ 0 ≤ bwdL idw A q s h n d ∧ bwdL idw A q s h n d ≤ 12000 := by
    intro d
    induction d with
    | zero => intro hd; have := fL n (Nat.le_refl _); simp only [bwdL]; exact ⟨this.1, this.2.1, by omega⟩
    | succ d ih =>
      intro hd
      obtain ⟨h1, h2, h3⟩ := ih (by omega)
      have := fL (n - (d + 1)) (by omega)
      simp only [bwdL, h1, this.1, idw]
      rw [w64 (by omega) (by omega)]
      exact ⟨rfl, by split <;> omega, by split <;> omega⟩
  have bH : ∀ d, d ≤ n → bwdH wrap64 B q s h n d = bwdH idw B q s h n d ∧ -50 * (d : Int) ≤ bwdH idw B q s h n d ∧ bwdH idw B q s h n d ≤ 10000 := by
    intro d
    induction d with
    | zero => intro hd; have := fH n (Nat.le_refl _); simp only [bwdH]; exact ⟨this.1, by omega, by omega⟩
    | succ d ih =>
      intro hd
      obtain ⟨h1, h2, h3⟩ := ih (by omega)
      have := fH (n - (d + 1)) (by omega)
      simp only [bwdH, h1, this.1, idw]
      rw [w64 (by omega) (by omega)]
      exact ⟨rfl, by omega, by omega⟩
  exact fun k hk => ⟨(bL (n - k) (by omega)).1, (bH (n - k) (by omega)).1⟩
theorem spansR_wrap (A B : Nat → Int) (q s : Int) (h : Nat → Bool) (n : Nat) (hn : n ≤ 40) (hq : 1 ≤ q ∧ q ≤ s ∧ s ≤ 50) (hA : ∀ k, k ≤ n → 0 ≤ A k) (hB : ∀ k, k ≤ n → B k ≤ 10000) : spansR wrap64 A B q s h n = spansR idw A B q s h n := by
  by_cases hbad : ∃ k, k ≤ n ∧ B k < A k
  · obtain ⟨k, hk, hlt⟩ := hbad
    have no : ∀ w : Int → Int, spansOk w A B q s h n = false := by
      intro w
      refine Bool.eq_false_iff.2 (fun hok => ?_)
      have := (spansOk_iff w A B q s h n).1 hok k hk
      have h1 := fwdL_ge w A q k
      have h2 := fwdH_le w B s h k
      have h3 := spanL_ge w A q s h n k hk
      have h4 := spanH_le w B q s h n k hk
      omega
    unfold spansR
    rw [no wrap64, no idw]
    simp only [Bool.false_eq_true, if_false]
  · have hw : ∀ k, k ≤ n → 0 ≤ A k ∧ A k ≤ B k ∧ B k ≤ 10000 := fun k hk => ⟨hA k hk, Int.not_lt.1 (fun hlt => hbad ⟨k, hk, hlt⟩), hB k hk⟩
    have e := spans_wrap A B q s h n hn hq hw
    have e2 : spansOk wrap64 A B q s h n = spansOk idw A B q s h n := by
      apply Bool.eq_iff_iff.2
      rw [spansOk_iff, spansOk_iff]
      exact ⟨fun hh k hk => by rw [← (e k hk).1, ← (e k hk).2]; exact hh k hk, fun hh k hk => by rw [(e k hk).1, (e k hk).2]; exact hh k hk⟩
    unfold spansR
    rw [e2, tab_congr (n + 1) _ (fun k => (⟨spanL idw A q s h n k, spanH idw B q s h n k⟩ : S37)) (fun j hj => by rw [(e j (by omega)).1, (e j (by omega)).2])]
def holdAt (l : List S52) (k : Nat) : Bool := (rd_T52 l (k : Int)).f6
theorem spec_max (a b : Int) : spec_l21Max.f a b = some (max a b) := by
  unfold spec_l21Max.f
  by_cases h : a > b
  · rw [if_pos h]; congr 1; omega
  · rw [if_neg h]; congr 1; omega
theorem spec_min (a b : Int) : spec_l21Min.f a b = some (min a b) := by
  unfold spec_l21Min.f
  by_cases h : a < b
  · rw [if_pos h]; congr 1; omega
  · rw [if_neg h]; congr 1; omega
theorem spec_spans (q s : Int) (l : List S52) (f b : Int) (hq : 1 ≤ q ∧ q ≤ s ∧ s ≤ 50) (hn : l.length ≤ 40)
    (hA : ∀ k : Nat, k ≤ l.length → 0 ≤ loAt l f k ∧ loAt l f k ≤ 9223372036854775807) (hB : ∀ k : Nat, k ≤ l.length → -9223372036854775808 ≤ hiAt l b k ∧ hiAt l b k ≤ 10000) :
    Ev (fun k => spec_l24Spans.f k q s l f b) (spansR idw (fun k => loAt l f k) (fun k => hiAt l b k) q s (holdAt l) l.length) := by
  -- the second loop, from i on downwards
  obtain ⟨n, hnl⟩ : ∃ n, n = l.length := ⟨_, rfl⟩
  rw [← hnl] at hn hA hB ⊢
  obtain ⟨A, hAd⟩ : ∃ A : Nat → Int, A = fun k : Nat => loAt l f (k : Int) := ⟨_, rfl⟩
  obtain ⟨B, hBd⟩ : ∃ B : Nat → Int, B = fun k : Nat => hiAt l b (k : Int) := ⟨_, rfl⟩
  have hA' : ∀ k, k ≤ n → 0 ≤ A k ∧ A k ≤ 9223372036854775807 := fun k hk => by rw [hAd]; exact hA k hk
  have hB' : ∀ k, k ≤ n → -9223372036854775808 ≤ B k ∧ B k ≤ 10000 := fun k hk => by rw [hBd]; exact hB k hk
  have hlo : ∀ i : Nat, spec_l23Low.f q s l f b (i : Int) = some (A i) := fun i => by rw [hAd]; exact spec_low q s l f b i (by omega)
  have hhi : ∀ i : Nat, spec_l23High.f q s l f b (i : Int) = some (B i) := fun i => by rw [hBd]; exact spec_high q s l f b i (by omega)
  rw [show (fun k : Nat => loAt l f (k : Int)) = A from hAd.symm, show (fun k : Nat => hiAt l b (k : Int)) = B from hBd.symm]
  have most : ∀ i : Nat, i < n → spec_l23Most.f q s l f b (i : Int) = some (if holdAt l i = true then 10000 else s) := fun i hi => by rw [spec_most q s l f b i (by omega) (by omega)]; rfl
  clear hA hB hAd hBd
  obtain ⟨h, hh⟩ : ∃ h, h = holdAt l := ⟨_, rfl⟩
  rw [← hh] at most ⊢
  have fail : ∀ k, k ≤ n → spanH idw B q s h n k < spanL idw A q s h n k → spansR idw A B q s h n = ([], false) := by
    intro k hk hlt
    unfold spansR
    rw [if_neg (fun hok => by have := (spansOk_iff idw A B q s h n).1 hok k hk; omega)]
  -- back
  have back : (∀ k, k ≤ n → fwdL idw A q k ≤ fwdH idw B s h k) → ∀ i, i ≤ n → (∀ k, i ≤ k → k ≤ n → spanL idw A q s h n k ≤ spanH idw B q s h n k) →
      Ev (fun k => spec_l24Spans.l1 k (tab (n + 1) (fun j => if i ≤ j then (⟨spanL idw A q s h n j, spanH idw B q s h n j⟩ : S37) else ⟨fwdL idw A q j, fwdH idw B s h j⟩)) ((i : Int) - 1) q s l f b) (spansR idw A B q s h n) := by
    intro hall i
    induction i with
    | zero =>
      intro hi hok
      refine Ev.step (fun k => ?_) (Ev.val _)
      simp only [spec_l24Spans.l1]
      rw [if_neg (by omega)]
      unfold spansR
      rw [if_pos ((spansOk_iff idw A B q s h n).2 (fun k hk => hok k (Nat.zero_le _) hk))]
      congr 2
    | succ i ih =>
      intro hi hok
      have r1 := hok (i + 1) (by omega) (by omega)
      have r2 := spanL_ge idw A q s h n (i + 1) (by omega)
      have r3 := spanH_le idw B q s h n (i + 1) (by omega)
      have r4 := fwdL_ge idw A q (i + 1)
      have r5 := fwdH_le idw B s h (i + 1)
      have r6 := hA' (i + 1) (by omega)
      have r7 := hB' (i + 1) (by omega)
      have r8 := fwdL_ge idw A q i
      have r9 := fwdH_le idw B s h i
      have r10 := hA' i (by omega)
      have r11 := hB' i (by omega)
      have r12 := hall i (by omega)
      have eL : max (fwdL idw A q i) (spanL idw A q s h n (i + 1) - (if h i = true then 10000 else s)) = spanL idw A q s h n i := by
        rw [spanL_step idw A q s h n i (by omega)]
        simp only [idw]
        split <;> omega
      have eH : min (fwdH idw B s h i) (spanH idw B q s h n (i + 1) - q) = spanH idw B q s h n i := by
        rw [spanH_step idw B q s h n i (by omega)]
      refine Ev.succ ?_
      simp only [spec_l24Spans.l1, show (((i + 1 : Nat) : Int)) - 1 = (i : Int) by omega]
      rw [w64 (show -9223372036854775808 ≤ (i : Int) + 1 by omega) (by omega)]
      simp only [tab_length, most i (by omega), Option.bind_some]
      rw [show ((i : Int) + 1) = (((i + 1 : Nat)) : Int) by omega]
      rw [tab_rd (n + 1) _ i (by omega), tab_rd (n + 1) _ (i + 1) (by omega), if_neg (show ¬ i + 1 ≤ i by omega), if_pos (Nat.le_refl (i + 1))]
      have b1 : -9223372036854775808 ≤ spanL idw A q s h n (i + 1) - (if h i = true then 10000 else s) := by split <;> omega
      have b2 : spanL idw A q s h n (i + 1) - (if h i = true then 10000 else s) ≤ 9223372036854775807 := by split <;> omega
      rw [w64 b1 b2, spec_max, eL]
      simp only [Option.bind_some, Int.toNat_natCast]
      rw [tab_set (n + 1) _ i _ (by omega), tab_rd (n + 1) _ i (by omega), tab_rd (n + 1) _ (i + 1) (by omega), if_pos rfl, if_neg (show ¬ i + 1 = i by omega), if_pos (Nat.le_refl (i + 1))]
      simp only [spec_min]
      rw [w64 (show -9223372036854775808 ≤ spanH idw B q s h n (i + 1) - q by omega) (by omega), eH]
      simp only [Option.bind_some]
      rw [tab_set (n + 1) _ i _ (by omega), tab_rd (n + 1) _ i (by omega), if_pos rfl]
      refine Ev.ite_pos (by omega) (Ev.ite_pos (by omega) (Ev.ite_pos (by omega) (Ev.ite_pos (by omega) (Ev.ite_pos (by omega) ?_))))
      by_cases hlt : spanL idw A q s h n i > spanH idw B q s h n i
      · refine Ev.ite_pos hlt (Ev.cast (Ev.val _) ?_)
        exact (fail i (by omega) hlt).symm
      · refine Ev.ite_neg hlt ?_
        rw [w64 (by omega) (by omega)]
        have := ih (by omega) (fun k hk hkn => by
          rcases Nat.lt_or_ge i k with h1 | h1
          · exact hok k h1 hkn
          · rw [show k = i by omega]; omega)
        rw [tab_congr (n + 1) _ (fun j => if i ≤ j then (⟨spanL idw A q s h n j, spanH idw B q s h n j⟩ : S37) else ⟨fwdL idw A q j, fwdH idw B s h j⟩) (fun j hj => by
          by_cases e : j = i
          · rw [if_pos e, if_pos (by omega), e]
          · rw [if_neg e, if_neg e]
            by_cases e2 : i + 1 ≤ j
            · rw [if_pos e2, if_pos (by omega)]
            · rw [if_neg e2, if_neg (by omega)])]
        exact this
  -- forward
  have forth : ∀ (d i : Nat), i + d = n + 1 → (∀ k, k < i → fwdL idw A q k ≤ fwdH idw B s h k) → Ev (fun k => spec_l24Spans.l0 k (tab i (fun j => (⟨fwdL idw A q j, fwdH idw B s h j⟩ : S37))) (l.length : Int) i q s l f b) (spansR idw A B q s h n) := by
    intro d
    induction d with
    | zero =>
      intro i hi hall
      refine Ev.succ ?_
      simp only [spec_l24Spans.l0]
      refine Ev.ite_neg (by omega) ?_
      by_cases hlast : spanL idw A q s h n n ≤ spanH idw B q s h n n
      · have := back (fun k hk => hall k (by omega)) n (Nat.le_refl _) (fun k h1 h2 => by rw [show k = n by omega]; exact hlast)
        rw [w64 (by omega) (by omega), ← hnl]
        rw [show i = n + 1 by omega]
        rw [tab_congr (n + 1) _ (fun j => if n ≤ j then (⟨spanL idw A q s h n j, spanH idw B q s h n j⟩ : S37) else ⟨fwdL idw A q j, fwdH idw B s h j⟩) (fun j hj => by
          by_cases e : n ≤ j
          · rw [if_pos e, show j = n by omega, spanL_last, spanH_last]
          · rw [if_neg e])]
        exact this
      · rw [spanL_last, spanH_last] at hlast
        exact absurd (hall n (by omega)) hlast
    | succ d ih =>
      intro i hi hall
      refine Ev.succ ?_
      simp only [spec_l24Spans.l0, hlo, hhi, Option.bind_some, tab_length]
      refine Ev.ite_pos (by omega) ?_
      have next : ∀ (lo hi' : Int), lo = fwdL idw A q i → hi' = fwdH idw B s h i → Ev (fun k => if lo > hi' then (some (([] : List S37), false)) else (if i < 8796093022208 then (spec_l24Spans.l0 k (tab i (fun j => (⟨fwdL idw A q j, fwdH idw B s h j⟩ : S37)) ++ [(⟨lo, hi'⟩ : S37)]) (l.length : Int) (wrap64 ((i : Int) + 1)) q s l f b) else none)) (spansR idw A B q s h n) := by
        rintro lo hi' rfl rfl
        by_cases hlt : fwdL idw A q i > fwdH idw B s h i
        · refine Ev.ite_pos hlt (Ev.cast (Ev.val _) ?_)
          have r1 := spanL_ge idw A q s h n i (by omega)
          have r2 := spanH_le idw B q s h n i (by omega)
          exact (fail i (by omega) (by omega)).symm
        · refine Ev.ite_neg hlt (Ev.ite_pos (by omega) ?_)
          have := ih (i + 1) (by omega) (fun k hk => by
            rcases Nat.lt_or_ge k i with h1 | h1
            · exact hall k h1
            · rw [show k = i by omega]; omega)
          rw [← tab_snoc] at this
          rw [w64 (by omega) (by omega)]
          rw [show (((i + 1 : Nat)) : Int) = (i : Int) + 1 by omega] at this
          exact this
      cases i with
      | zero =>
        refine Ev.ite_neg (by decide) ?_
        exact next _ _ rfl rfl
      | succ i =>
        have r1 := hall i (by omega)
        have r2 := fwdL_ge idw A q i
        have r3 := fwdH_le idw B s h i
        have r4 := hA' i (by omega)
        have r5 := hB' i (by omega)
        have r6 := hA' (i + 1) (by omega)
        have r7 := hB' (i + 1) (by omega)
        refine Ev.ite_pos (by omega) ?_
        rw [show (((i + 1 : Nat)) : Int) - 1 = (i : Int) by omega, w64 (show -9223372036854775808 ≤ (i : Int) by omega) (by omega)]
        simp only [most i (by omega), Option.bind_some]
        rw [tab_rd (i + 1) _ i (by omega)]
        rw [w64 (show -9223372036854775808 ≤ fwdL idw A q i + q by omega) (by omega), spec_max]
        have b1 : -9223372036854775808 ≤ fwdH idw B s h i + (if h i = true then 10000 else s) := by split <;> omega
        have b2 : fwdH idw B s h i + (if h i = true then 10000 else s) ≤ 9223372036854775807 := by split <;> omega
        rw [w64 b1 b2]
        simp only [spec_min, Option.bind_some]
        refine Ev.ite_pos (by omega) (Ev.ite_pos (by omega) ?_)
        refine next _ _ ?_ ?_
        · simp only [fwdL, idw]
        · simp only [fwdH, idw]
          split <;> omega
  have := forth (n + 1) 0 (by omega) (fun k hk => by omega)
  unfold spec_l24Spans.f
  exact this
theorem findN_same {ρ : Type} (P : Nat → Bool) (r0 r : ρ) : ∀ d i, allN P d i = false → findN (fun j => !P j) (fun _ => r0) r d i = r0
  | 0, _, h => by simp [allN, findN] at h
  | d + 1, i, h => by
    simp only [allN, findN] at h ⊢
    by_cases hp : (!P i) = true
    · rw [if_pos hp]
    · rw [if_neg hp] at h ⊢
      exact findN_same P r0 r d (i + 1) h
theorem mx_eq (a b : Int) : mx a b = max a b := by
  unfold mx
  split <;> omega
theorem mn_eq (a b : Int) : mn a b = min a b := by
  unfold mn
  split <;> omega
def begA (l : List S52) (f : Int) (b : List Int) (k : Nat) : Int := if k < b.length then max (loAt l f k) (rd b (k : Int)) else loAt l f k
def begB (l : List S52) (f : Int) (b : List Int) (k : Nat) : Int := if k < b.length then min (hiAt l f k) (rd b (k : Int)) else hiAt l f k
theorem zrep (n : Nat) : List.replicate n z37 = tab n (fun _ => z37) := by
  apply List.ext_getElem?
  intro j
  rcases Nat.lt_or_ge j n with hj | hj
  · rw [tab_get n _ j hj, List.getElem?_replicate, if_pos hj]
  · rw [List.getElem?_eq_none (by rw [List.length_replicate]; omega), List.getElem?_eq_none (by rw [tab_length]; omega)]
theorem impl_spans (q s : Int) (l : List S52) (f b : Int) (beg : List Int) (hn : l.length ≤ 40) :
    Ev (fun k => impl_FlyPath_spans.f k q s l f b beg) (spansR wrap64 (begA l f beg) (begB l b beg) q s (holdAt l) l.length) := by
  obtain ⟨n, hnl⟩ : ∃ n, n = l.length := ⟨_, rfl⟩
  obtain ⟨A, hA⟩ : ∃ A, A = begA l f beg := ⟨_, rfl⟩
  obtain ⟨B, hB⟩ : ∃ B, B = begB l b beg := ⟨_, rfl⟩
  obtain ⟨h, hh⟩ : ∃ h, h = holdAt l := ⟨_, rfl⟩
  rw [← hA, ← hB, ← hh, ← hnl]
  rw [← hnl] at hn
  -- the check
  have check : Ev (fun k => impl_FlyPath_spans.l3 k (tab (n + 1) (fun j => (⟨spanL wrap64 A q s h n j, spanH wrap64 B q s h n j⟩ : S37))) (tab (n + 1) (fun j => (⟨spanL wrap64 A q s h n j, spanH wrap64 B q s h n j⟩ : S37))) ((tab (n + 1) (fun j => (⟨spanL wrap64 A q s h n j, spanH wrap64 B q s h n j⟩ : S37))).length : Int) 0) (spansR wrap64 A B q s h n) := by
    have round : ∀ i : Nat, i < n + 1 → ∀ k, impl_FlyPath_spans.l3 (k + 1) (tab (n + 1) (fun j => (⟨spanL wrap64 A q s h n j, spanH wrap64 B q s h n j⟩ : S37))) (tab (n + 1) (fun j => (⟨spanL wrap64 A q s h n j, spanH wrap64 B q s h n j⟩ : S37))) ((n + 1 : Nat) : Int) (i : Int) = if spanL wrap64 A q s h n i > spanH wrap64 B q s h n i then (some (([] : List S37), false)) else impl_FlyPath_spans.l3 k (tab (n + 1) (fun j => (⟨spanL wrap64 A q s h n j, spanH wrap64 B q s h n j⟩ : S37))) (tab (n + 1) (fun j => (⟨spanL wrap64 A q s h n j, spanH wrap64 B q s h n j⟩ : S37))) ((n + 1 : Nat) : Int) ((i : Int) + 1) := by
      intro i hi k
      simp only [impl_FlyPath_spans.l3, tab_length]
      rw [if_pos (show (i : Int) < ((n + 1 : Nat) : Int) by omega), if_pos (show (0 : Int) ≤ i by omega), tab_rd (n + 1) _ i hi, w64 (show -9223372036854775808 ≤ (i : Int) + 1 by omega) (by omega), if_pos (show (i : Int) < ((n + 1 : Nat) : Int) by omega)]
    rw [tab_length]
    have := find_loop (F := fun k i => impl_FlyPath_spans.l3 k (tab (n + 1) (fun j => (⟨spanL wrap64 A q s h n j, spanH wrap64 B q s h n j⟩ : S37))) (tab (n + 1) (fun j => (⟨spanL wrap64 A q s h n j, spanH wrap64 B q s h n j⟩ : S37))) ((n + 1 : Nat) : Int) i) (n + 1) (fun j => !decide (spanL wrap64 A q s h n j ≤ spanH wrap64 B q s h n j)) (fun _ => (([] : List S37), false)) (tab (n + 1) (fun j => (⟨spanL wrap64 A q s h n j, spanH wrap64 B q s h n j⟩ : S37)), true) (fun i hi hp => Ev.step (round i hi) (Ev.ite_pos (by have := hp; simp at this; omega) (Ev.val _)))
      (fun i hi hp r' hr => Ev.step (round i hi) (Ev.ite_neg (by have := hp; simp at this; omega) hr)) (Ev.step (fun k => by
        simp only [impl_FlyPath_spans.l3]
        rw [if_neg (by omega)]) (Ev.val _)) (n + 1) 0 (by omega)
    refine Ev.cast this ?_
    unfold spansR spansOk
    by_cases hok : allN (fun k => decide (spanL wrap64 A q s h n k ≤ spanH wrap64 B q s h n k)) (n + 1) 0 = true
    · rw [if_pos hok]
      refine findN_none (n + 1) 0 (fun j h1 h2 => ?_)
      have := (allN_iff (n + 1) 0).1 hok j h1 h2
      simp only [this, Bool.not_true]
    · rw [if_neg hok]
      have ne := Bool.eq_false_iff.2 hok
      generalize hP : (fun k => decide (spanL wrap64 A q s h n k ≤ spanH wrap64 B q s h n k)) = P at ne
      have e : (fun j => !decide (spanL wrap64 A q s h n j ≤ spanH wrap64 B q s h n j)) = fun j => !P j := by rw [← hP]
      rw [e]
      exact findN_same P _ _ (n + 1) 0 ne
  -- back
  have back : ∀ i, i ≤ n → Ev (fun k => impl_FlyPath_spans.l2 k (tab (n + 1) (fun j => if i ≤ j then (⟨spanL wrap64 A q s h n j, spanH wrap64 B q s h n j⟩ : S37) else ⟨fwdL wrap64 A q j, fwdH wrap64 B s h j⟩)) ((i : Int) - 1) q s l f b) (spansR wrap64 A B q s h n) := by
    intro i
    induction i with
    | zero =>
      intro hi
      refine Ev.succ ?_
      simp only [impl_FlyPath_spans.l2]
      refine Ev.ite_neg (by omega) ?_
      have := check
      rw [tab_congr (n + 1) (fun j => (⟨spanL wrap64 A q s h n j, spanH wrap64 B q s h n j⟩ : S37)) (fun j => if 0 ≤ j then (⟨spanL wrap64 A q s h n j, spanH wrap64 B q s h n j⟩ : S37) else ⟨fwdL wrap64 A q j, fwdH wrap64 B s h j⟩) (fun j hj => by rw [if_pos (Nat.zero_le j)])] at this
      exact this
    | succ i ih =>
      intro hi
      refine Ev.succ ?_
      simp only [impl_FlyPath_spans.l2, show (((i + 1 : Nat) : Int)) - 1 = (i : Int) by omega, Option.bind_some]
      rw [w64 (show -9223372036854775808 ≤ (i : Int) + 1 by omega) (by omega)]
      simp only [tab_length]
      rw [show ((i : Int) + 1) = (((i + 1 : Nat)) : Int) by omega]
      rw [tab_rd (n + 1) _ i (by omega), tab_rd (n + 1) _ (i + 1) (by omega), if_neg (show ¬ i + 1 ≤ i by omega), if_pos (Nat.le_refl (i + 1))]
      refine Ev.ite_pos (by omega) (Ev.ite_pos (by omega) (Ev.ite_pos (by omega) (Ev.ite_pos (by omega) (Ev.ite_pos (by omega) (Ev.ite_pos (by omega) ?_)))))
      simp only [Int.toNat_natCast, mn_eq]
      rw [← spanH_step wrap64 B q s h n i (by omega)]
      rw [tab_set (n + 1) _ i _ (by omega), tab_rd (n + 1) _ i (by omega), tab_rd (n + 1) _ (i + 1) (by omega), if_pos rfl, if_neg (show ¬ i + 1 = i by omega), if_pos (Nat.le_refl (i + 1))]
      rw [w64 (show -9223372036854775808 ≤ (i : Int) - 1 by omega) (by omega)]
      have next := ih (by omega)
      have eL := spanL_step wrap64 A q s h n i (by omega)
      have hhi : ((rd_T52 l (i : Int)).f6 = true) = (h i = true) := by rw [hh]; rfl
      simp only [hhi]
      by_cases hi6 : h i = true
      · refine Ev.ite_pos hi6 ?_
        rw [if_pos hi6] at eL
        rw [tab_congr (n + 1) _ (fun j => if i ≤ j then (⟨spanL wrap64 A q s h n j, spanH wrap64 B q s h n j⟩ : S37) else ⟨fwdL wrap64 A q j, fwdH wrap64 B s h j⟩) (fun j hj => by
          by_cases e : j = i
          · rw [if_pos e, if_pos (by omega), e, eL]
          · rw [if_neg e]
            by_cases e2 : i + 1 ≤ j
            · rw [if_pos e2, if_pos (by omega)]
            · rw [if_neg e2, if_neg (by omega)])]
        exact next
      · refine Ev.ite_neg hi6 ?_
        rw [if_neg hi6] at eL
        rw [mx_eq, ← eL, tab_set (n + 1) _ i _ (by omega)]
        rw [tab_congr (n + 1) _ (fun j => if i ≤ j then (⟨spanL wrap64 A q s h n j, spanH wrap64 B q s h n j⟩ : S37) else ⟨fwdL wrap64 A q j, fwdH wrap64 B s h j⟩) (fun j hj => by
          by_cases e : j = i
          · rw [if_pos e, if_pos (by omega), e]
          · rw [if_neg e, if_neg e]
            by_cases e2 : i + 1 ≤ j
            · rw [if_pos e2, if_pos (by omega)]
            · rw [if_neg e2, if_neg (by omega)])]
        exact next
  -- forward
  have forth : ∀ (d i : Nat), i + d = n → Ev (fun k => impl_FlyPath_spans.l1 k (n : Int) (tab (n + 1) (fun j => if j ≤ i then (⟨fwdL wrap64 A q j, fwdH wrap64 B s h j⟩ : S37) else ⟨A j, B j⟩)) ((i : Int) + 1) q s l f b) (spansR wrap64 A B q s h n) := by
    intro d
    induction d with
    | zero =>
      intro i hi
      refine Ev.succ ?_
      simp only [impl_FlyPath_spans.l1]
      refine Ev.ite_neg (by omega) ?_
      rw [w64 (show -9223372036854775808 ≤ (n : Int) - 1 by omega) (by omega)]
      have := back n (Nat.le_refl _)
      rw [tab_congr (n + 1) _ (fun j => if n ≤ j then (⟨spanL wrap64 A q s h n j, spanH wrap64 B q s h n j⟩ : S37) else ⟨fwdL wrap64 A q j, fwdH wrap64 B s h j⟩) (fun j hj => by
        rw [if_pos (show j ≤ i by omega)]
        by_cases e : n ≤ j
        · rw [if_pos e, show j = n by omega, spanL_last, spanH_last]
        · rw [if_neg e])]
      exact this
    | succ d ih =>
      intro i hi
      refine Ev.succ ?_
      simp only [impl_FlyPath_spans.l1, Option.bind_some, tab_length]
      rw [show (i : Int) + 1 - 1 = (i : Int) by omega, w64 (show -9223372036854775808 ≤ (i : Int) by omega) (by omega), show ((i : Int) + 1) = (((i + 1 : Nat)) : Int) by omega]
      rw [tab_rd (n + 1) _ i (by omega), tab_rd (n + 1) _ (i + 1) (by omega), if_neg (show ¬ i + 1 ≤ i by omega), if_pos (Nat.le_refl i)]
      refine Ev.ite_pos (by omega) (Ev.ite_pos (by omega) (Ev.ite_pos (by omega) (Ev.ite_pos (by omega) (Ev.ite_pos (by omega) (Ev.ite_pos (by omega) ?_)))))
      simp only [Int.toNat_natCast, mx_eq]
      rw [tab_set (n + 1) _ (i + 1) _ (by omega), tab_rd (n + 1) _ i (by omega), tab_rd (n + 1) _ (i + 1) (by omega), if_pos rfl, if_neg (show ¬ i = i + 1 by omega), if_pos (Nat.le_refl i)]
      rw [w64 (show -9223372036854775808 ≤ (((i + 1 : Nat)) : Int) + 1 by omega) (by omega)]
      have next := ih (i + 1) (by omega)
      have hhi : ((rd_T52 l (i : Int)).f6 = true) = (h i = true) := by rw [hh]; rfl
      simp only [hhi]
      by_cases hi6 : h i = true
      · refine Ev.ite_pos hi6 ?_
        rw [tab_congr (n + 1) _ (fun j => if j ≤ i + 1 then (⟨fwdL wrap64 A q j, fwdH wrap64 B s h j⟩ : S37) else ⟨A j, B j⟩) (fun j hj => by
          by_cases e : j = i + 1
          · rw [if_pos e, if_pos (by omega), e]
            simp only [fwdL, fwdH, if_pos hi6]
          · rw [if_neg e]
            by_cases e2 : j ≤ i
            · rw [if_pos e2, if_pos (by omega)]
            · rw [if_neg e2, if_neg (by omega)])]
        exact next
      · refine Ev.ite_neg hi6 ?_
        rw [mn_eq, tab_set (n + 1) _ (i + 1) _ (by omega)]
        rw [tab_congr (n + 1) _ (fun j => if j ≤ i + 1 then (⟨fwdL wrap64 A q j, fwdH wrap64 B s h j⟩ : S37) else ⟨A j, B j⟩) (fun j hj => by
          by_cases e : j = i + 1
          · rw [if_pos e, if_pos (by omega), e]
            simp only [fwdL, fwdH, if_neg hi6]
          · rw [if_neg e, if_neg e]
            by_cases e2 : j ≤ i
            · rw [if_pos e2, if_pos (by omega)]
            · rw [if_neg e2, if_neg (by omega)])]
        exact next
  -- the windows
  have wins : ∀ (d i : Nat), i + d = n + 1 → Ev (fun k => impl_FlyPath_spans.l0 k beg (n : Int) (tab (n + 1) (fun j => if j < i then (⟨A j, B j⟩ : S37) else z37)) ((n + 1 : Nat) : Int) (i : Int) q s l f b) (spansR wrap64 A B q s h n) := by
    intro d
    induction d with
    | zero =>
      intro i hi
      refine Ev.succ ?_
      simp only [impl_FlyPath_spans.l0]
      refine Ev.ite_neg (by omega) ?_
      have := forth n 0 (by omega)
      rw [tab_congr (n + 1) _ (fun j => if j ≤ 0 then (⟨fwdL wrap64 A q j, fwdH wrap64 B s h j⟩ : S37) else ⟨A j, B j⟩) (fun j hj => by
        rw [if_pos (show j < i by omega)]
        by_cases e : j ≤ 0
        · rw [if_pos e, show j = 0 by omega]; rfl
        · rw [if_neg e])]
      exact this
    | succ d ih =>
      intro i hi
      refine Ev.succ ?_
      simp only [impl_FlyPath_spans.l0, Option.bind_some, tab_length]
      refine Ev.ite_pos (by omega) ?_
      rw [impl_bound q s l f b (i : Int) (by omega) (by omega)]
      simp only [Option.bind_some, Int.toNat_natCast]
      rw [tab_rd (n + 1) _ i (by omega), if_neg (show ¬ i < i by omega), tab_set (n + 1) _ i _ (by omega)]
      rw [tab_rd (n + 1) _ i (by omega), if_pos rfl, tab_set (n + 1) _ i _ (by omega)]
      rw [tab_rd (n + 1) _ i (by omega), if_pos rfl, tab_set (n + 1) _ i _ (by omega)]
      rw [tab_rd (n + 1) _ i (by omega), if_pos rfl, tab_set (n + 1) _ i _ (by omega)]
      rw [w64 (show -9223372036854775808 ≤ (i : Int) + 1 by omega) (by omega)]
      refine Ev.ite_pos (by omega) (Ev.ite_pos (by omega) ?_)
      have next := ih (i + 1) (by omega)
      rw [show (((i + 1 : Nat)) : Int) = (i : Int) + 1 by omega] at next
      by_cases hb : i < beg.length
      · refine Ev.ite_pos (by omega) ?_
        rw [mx_eq, mn_eq]
        rw [tab_congr (n + 1) _ (fun j => if j < i + 1 then (⟨A j, B j⟩ : S37) else z37) (fun j hj => by
          by_cases e : j = i
          · simp only [if_pos e]
            rw [if_pos (by omega), e, hA, hB]
            unfold begA begB
            rw [if_pos hb, if_pos hb]
          · simp only [if_neg e]
            by_cases e2 : j < i
            · rw [if_pos e2, if_pos (by omega)]
            · rw [if_neg e2, if_neg (by omega)])]
        exact next
      · refine Ev.ite_neg (by omega) ?_
        rw [tab_congr (n + 1) _ (fun j => if j < i + 1 then (⟨A j, B j⟩ : S37) else z37) (fun j hj => by
          by_cases e : j = i
          · simp only [if_pos e]
            rw [if_pos (by omega), e, hA, hB]
            unfold begA begB
            rw [if_neg hb, if_neg hb]
          · simp only [if_neg e]
            by_cases e2 : j < i
            · rw [if_pos e2, if_pos (by omega)]
            · rw [if_neg e2, if_neg (by omega)])]
        exact next
  unfold impl_FlyPath_spans.f
  rw [← hnl, w64 (show -9223372036854775808 ≤ (n : Int) + 1 by omega) (by omega), show ((n : Int) + 1).toNat = n + 1 by omega, zrep]
  refine Ev.ite_pos (by omega) (Ev.ite_pos (by omega) ?_)
  simp only [Option.bind_some, tab_length]
  have := wins (n + 1) 0 (by omega)
  rw [tab_congr (n + 1) (fun _ => z37) (fun j => if j < 0 then (⟨A j, B j⟩ : S37) else z37) (fun j hj => by rw [if_neg (by omega)])]
  exact this
def spansOf (q s : Int) (l : List S52) (f b : Int) : List S37 × Bool := if pathOk q s l f b = true then spansR idw (fun k => loAt l f k) (fun k => hiAt l b k) q s (holdAt l) l.length else ([], false)
theorem spansR_length (w : Int → Int) (A B : Nat → Int) (q s : Int) (h : Nat → Bool) (n : Nat) : (spansR w A B q s h n).1.length ≤ n + 1 := by
  unfold spansR
  split
  · rw [tab_length]; exact Nat.le_refl _
  · exact Nat.zero_le _
theorem spansOf_length (q s : Int) (l : List S52) (f b : Int) : (spansOf q s l f b).1.length ≤ 41 := by
  unfold spansOf
  by_cases h : pathOk q s l f b = true
  · rw [if_pos h]
    have := spansR_length idw (fun k => loAt l f k) (fun k => hiAt l b k) q s (holdAt l) l.length
    have := (pathOk_facts h).2.1.2
    omega
  · rw [if_neg h]; exact Nat.zero_le _
theorem spec_spans_ok {q s : Int} {l : List S52} {f b : Int} (h : pathOk q s l f b = true) : Ev (fun k => spec_l24Spans.f k q s l f b) (spansR idw (fun k => loAt l f k) (fun k => hiAt l b k) q s (holdAt l) l.length) := by
  have hf := pathOk_facts h
  exact spec_spans q s l f b hf.1 hf.2.1.2 (fun k _ => by have := loAt_range h k; omega) (fun k _ => by have := loAt_range h k; omega)
theorem impl_spans_nil {q s : Int} {l : List S52} {f b : Int} (h : pathOk q s l f b = true) : Ev (fun k => impl_FlyPath_spans.f k q s l f b []) (spansR idw (fun k => loAt l f k) (fun k => hiAt l b k) q s (holdAt l) l.length) := by
  have hf := pathOk_facts h
  have := impl_spans q s l f b [] hf.2.1.2
  have e1 : begA l f [] = fun k : Nat => loAt l f (k : Int) := by funext k; unfold begA; rw [if_neg (by simp)]
  have e2 : begB l b [] = fun k : Nat => hiAt l b (k : Int) := by funext k; unfold begB; rw [if_neg (by simp)]
  rw [e1, e2, spansR_wrap _ _ q s _ _ hf.2.1.2 hf.1 (fun k _ => (loAt_range h k).1) (fun k _ => (loAt_range h k).2.2)] at this
  exact this
theorem spec_law (q s : Int) (l : List S52) (f b : Int) : Ev (fun k => spec_FlySpans.f k q s l f b) (spansOf q s l f b) := by
  unfold spec_FlySpans.f spansOf
  refine Ev.bind (spec_pathOk q s l f b) ?_
  by_cases h : pathOk q s l f b = true
  · rw [if_pos h]
    exact Ev.ite_pos h (Ev.bind (spec_spans_ok h) (Ev.val _))
  · rw [if_neg h]
    exact Ev.ite_neg h (Ev.val _)
theorem impl_law (q s : Int) (l : List S52) (f b : Int) : Ev (fun k => impl_FlySpans.f k q s l f b) (spansOf q s l f b) := by
  unfold impl_FlySpans.f spansOf
  refine Ev.bind (impl_pathOk q s l f b) ?_
  by_cases h : pathOk q s l f b = true
  · rw [if_pos h]
    exact Ev.ite_pos h (Ev.bind (impl_spans_nil h) (Ev.val _))
  · rw [if_neg h]
    exact Ev.ite_neg h (Ev.val _)
namespace First
theorem rd_nth (x : List S37) (i : Nat) (h : i < x.length) : rd_T37 x (i : Int) = x[i] := by
  show x.getD ((i : Int)).toNat _ = x[i]
  rw [Int.toNat_natCast, List.getD_eq_getElem?_getD, List.getElem?_eq_getElem h]; rfl
theorem impl_list (x : List S37) (hx : x.length ≤ 1048576) : Ev (fun k => impl_FlyFirst.l0 k [] x (x.length : Int) 0) (x.map (·.f0)) := by
  have loop : ∀ d i : Nat, i + d = x.length → Ev (fun k => impl_FlyFirst.l0 k ((x.take i).map (·.f0)) x (x.length : Int) (i : Int)) (x.map (·.f0)) := by
    intro d
    induction d with
    | zero =>
      intro i hi
      refine Ev.succ ?_
      simp only [impl_FlyFirst.l0]
      refine Ev.ite_neg (by omega) (Ev.cast (Ev.val _) ?_)
      rw [List.take_of_length_le (by omega)]
    | succ d ih =>
      intro i hi
      refine Ev.succ ?_
      simp only [impl_FlyFirst.l0]
      refine Ev.ite_pos (by omega) (Ev.ite_pos (by omega) (Ev.ite_pos (by omega) (Ev.ite_pos (by rw [List.length_map, List.length_take]; omega) ?_)))
      rw [w64 (by omega) (by omega), rd_nth x i (by omega)]
      have := ih (i + 1) (by omega)
      rw [List.take_add_one, List.getElem?_eq_getElem (show i < x.length by omega), List.map_append] at this
      exact this
  exact loop x.length 0 (by omega)
def listOf (q s : Int) (l : List S52) (f b : Int) : List Int := (spansOf q s l f b).1.map (·.f0)
theorem impl_all (q s : Int) (l : List S52) (f b : Int) : Ev (fun k => impl_FlyFirst.f k q s l f b) (listOf q s l f b) := by
  have := spansOf_length q s l f b
  unfold impl_FlyFirst.f
  exact Ev.bind (impl_law q s l f b) (impl_list _ (by omega))
end First
/-! #### the tube of a path -/
theorem rd_nth (x : List S37) (i : Nat) (h : i < x.length) : rd_T37 x (i : Int) = x[i] := by
  show x.getD ((i : Int)).toNat _ = x[i]
  rw [Int.toNat_natCast, List.getD_eq_getElem?_getD, List.getElem?_eq_getElem h]; rfl
def boxOf (x : S52) (L H : Int) : S40 := ⟨x.f0, x.f1, x.f2, x.f3, L, H - 1⟩
theorem rd_nthS (x : List S52) (i : Nat) (h : i < x.length) : rd_T52 x (i : Int) = x[i] := by
  show x.getD ((i : Int)).toNat _ = x[i]
  rw [Int.toNat_natCast, List.getD_eq_getElem?_getD, List.getElem?_eq_getElem h]; rfl
def tubeRow (l : List S52) (x : List S37) (n : Nat) : List S40 := tab n (fun j => (⟨(rd_T52 l (j : Int)).f0, (rd_T52 l (j : Int)).f1, (rd_T52 l (j : Int)).f2, (rd_T52 l (j : Int)).f3, (rd_T37 x (j : Int)).f0, wrap64 ((rd_T37 x ((j + 1 : Nat) : Int)).f1 - 1)⟩ : S40))
theorem spec_list (q s : Int) (l : List S52) (f b : Int) (x : List S37) (hx : x.length = l.length + 1) (hl : l.length ≤ 1048576) : Ev (fun k => spec_FlyTube.l0 k [] x true 0 q s l f b) (tubeRow l x l.length) := by
  have loop : ∀ d i : Nat, i + d = l.length → Ev (fun k => spec_FlyTube.l0 k (tubeRow l x i) x true (i : Int) q s l f b) (tubeRow l x l.length) := by
    intro d
    induction d with
    | zero =>
      intro i hi
      refine Ev.succ ?_
      simp only [spec_FlyTube.l0]
      refine Ev.ite_pos trivial (Ev.ite_neg (by omega) (Ev.cast (Ev.val _) ?_))
      rw [show i = l.length by omega]
    | succ d ih =>
      intro i hi
      refine Ev.succ ?_
      simp only [spec_FlyTube.l0]
      rw [w64 (show -9223372036854775808 ≤ (i : Int) + 1 by omega) (by omega)]
      refine Ev.ite_pos trivial (Ev.ite_pos (by omega) (Ev.ite_pos (by omega) (Ev.ite_pos (by omega) (Ev.ite_pos (by omega) (Ev.ite_pos (by omega) (Ev.ite_pos (by unfold tubeRow; rw [tab_length]; omega) ?_))))))
      have := ih (i + 1) (by omega)
      rw [show tubeRow l x (i + 1) = tubeRow l x i ++ [(⟨(rd_T52 l (i : Int)).f0, (rd_T52 l (i : Int)).f1, (rd_T52 l (i : Int)).f2, (rd_T52 l (i : Int)).f3, (rd_T37 x (i : Int)).f0, wrap64 ((rd_T37 x ((i + 1 : Nat) : Int)).f1 - 1)⟩ : S40)] from (tab_snoc i _).symm] at this
      exact this
  exact loop l.length 0 (by omega)
theorem impl_list (l : List S52) (x : List S37) (hx : x.length = l.length + 1) (hl : l.length ≤ 1048576) : Ev (fun k => impl_FlyTube.l0 k x [] l (l.length : Int) 0) (tubeRow l x l.length) := by
  have loop : ∀ d i : Nat, i + d = l.length → Ev (fun k => impl_FlyTube.l0 k x (tubeRow l x i) l (l.length : Int) (i : Int)) (tubeRow l x l.length) := by
    intro d
    induction d with
    | zero =>
      intro i hi
      refine Ev.succ ?_
      simp only [impl_FlyTube.l0]
      refine Ev.ite_neg (by omega) (Ev.cast (Ev.val _) ?_)
      rw [show i = l.length by omega]
    | succ d ih =>
      intro i hi
      refine Ev.succ ?_
      simp only [impl_FlyTube.l0]
      rw [w64 (show -9223372036854775808 ≤ (i : Int) + 1 by omega) (by omega)]
      refine Ev.ite_pos (by omega) (Ev.ite_pos (by omega) (Ev.ite_pos (by omega) (Ev.ite_pos (by omega) (Ev.ite_pos (by omega) (Ev.ite_pos (by omega) (Ev.ite_pos (by unfold tubeRow; rw [tab_length]; omega) ?_))))))
      have := ih (i + 1) (by omega)
      rw [show tubeRow l x (i + 1) = tubeRow l x i ++ [(⟨(rd_T52 l (i : Int)).f0, (rd_T52 l (i : Int)).f1, (rd_T52 l (i : Int)).f2, (rd_T52 l (i : Int)).f3, (rd_T37 x (i : Int)).f0, wrap64 ((rd_T37 x ((i + 1 : Nat) : Int)).f1 - 1)⟩ : S40)] from (tab_snoc i _).symm] at this
      exact this
  exact loop l.length 0 (by omega)
def listOf (q s : Int) (l : List S52) (f b : Int) : List S40 := if (spansOf q s l f b).2 = true then tubeRow l (spansOf q s l f b).1 l.length else []
theorem spansOf_full (q s : Int) (l : List S52) (f b : Int) (h : (spansOf q s l f b).2 = true) : (spansOf q s l f b).1.length = l.length + 1 := by
  unfold spansOf spansR at h ⊢
  by_cases h1 : pathOk q s l f b = true
  · simp only [h1, if_true] at h ⊢
    split at h
    · rename_i h2
      rw [if_pos h2]
      exact tab_length _ _
    · cases h
  · rw [if_neg h1] at h; cases h
theorem spec_all (q s : Int) (l : List S52) (f b : Int) : Ev (fun k => spec_FlyTube.f k q s l f b) (listOf q s l f b) := by
  have hn := spansOf_length q s l f b
  unfold spec_FlyTube.f listOf
  refine Ev.bind (spec_law q s l f b) ?_
  by_cases h : (spansOf q s l f b).2 = true
  · have := spansOf_full q s l f b h
    rw [if_pos h, h]
    exact spec_list q s l f b _ this (by omega)
  · rw [if_neg h, Bool.eq_false_iff.2 h]
    refine Ev.succ ?_
    simp only [spec_FlyTube.l0]
    exact Ev.ite_neg (by decide) (Ev.val _)
theorem impl_all (q s : Int) (l : List S52) (f b : Int) : Ev (fun k => impl_FlyTube.f k q s l f b) (listOf q s l f b) := by
  have hn := spansOf_length q s l f b
  unfold impl_FlyTube.f listOf
  refine Ev.bind (impl_law q s l f b) ?_
  by_cases h : (spansOf q s l f b).2 = true
  · have := spansOf_full q s l f b h
    rw [if_pos h]
    exact Ev.ite_pos h (impl_list l _ this (by omega))
  · rw [if_neg h]
    exact Ev.ite_neg h (Ev.val _)
theorem listOf_length (q s : Int) (l : List S52) (f b : Int) : (listOf q s l f b).length ≤ 41 := by
  have hn := spansOf_length q s l f b
  unfold listOf
  by_cases h : (spansOf q s l f b).2 = true
  · have := spansOf_full q s l f b h
    rw [if_pos h]
    unfold tubeRow
    rw [tab_length]; omega
  · rw [if_neg h]; exact Nat.zero_le _
/-! #### a path's steps changed one by one -/
theorem tab_rdS (n : Nat) (g : Nat → S52) (i : Nat) (hi : i < n) : rd_T52 (tab n g) (i : Int) = g i := by
  show (tab n g).getD ((i : Int)).toNat _ = g i
  rw [Int.toNat_natCast, List.getD_eq_getElem?_getD, tab_get n g i hi]; rfl
theorem rd_setS (x : List S52) (i : Nat) (h : i < x.length) (v : S52) : rd_T52 (x.set i v) (i : Int) = v := by
  show (x.set i v).getD ((i : Int)).toNat _ = v
  rw [Int.toNat_natCast, List.getD_eq_getElem?_getD, List.getElem?_set_self h]; rfl
def upTo (g : Nat → S52) (l : List S52) (i : Nat) : List S52 := tab l.length (fun j => if j < i then g j else rd_T52 l (j : Int))
theorem upTo_length (g : Nat → S52) (l : List S52) (i : Nat) : (upTo g l i).length = l.length := tab_length _ _
theorem upTo_rd (g : Nat → S52) (l : List S52) (i j : Nat) (hj : j < l.length) : rd_T52 (upTo g l i) (j : Int) = if j < i then g j else rd_T52 l (j : Int) := tab_rdS _ _ j hj
theorem upTo_zero (g : Nat → S52) (l : List S52) : upTo g l 0 = l := by
  unfold upTo
  apply List.ext_getElem?
  intro j
  rcases Nat.lt_or_ge j l.length with hj | hj
  · rw [tab_get _ _ j hj, if_neg (by omega), List.getElem?_eq_getElem hj]
    congr 1
    show l.getD ((j : Int)).toNat _ = l[j]
    rw [Int.toNat_natCast, List.getD_eq_getElem?_getD, List.getElem?_eq_getElem hj]; rfl
  · rw [List.getElem?_eq_none (by rw [tab_length]; omega), List.getElem?_eq_none (by omega)]
theorem upTo_set (g : Nat → S52) (l : List S52) (i : Nat) (hi : i < l.length) : (upTo g l i).set i (g i) = upTo g l (i + 1) := by
  unfold upTo
  rw [tab_set _ _ i _ hi]
  refine tab_congr _ _ _ (fun j hj => ?_)
  by_cases e : j = i
  · rw [if_pos e, if_pos (by omega), e]
  · rw [if_neg e]
    by_cases e2 : j < i
    · rw [if_pos e2, if_pos (by omega)]
    · rw [if_neg e2, if_neg (by omega)]
def shiftStep (d : Int) (x : S52) : S52 := ⟨x.f0, x.f1, x.f2, x.f3, wrap64 (x.f4 + d), wrap64 (x.f5 + d), x.f6⟩
def shiftRow (l : List S52) (d : Int) (i : Nat) : List S52 := upTo (fun j => shiftStep d (rd_T52 l (j : Int))) l i
def shiftOf (q s : Int) (l : List S52) (f b d : Int) : Int × Int × List S52 × Int × Int × Bool :=
  if pathOk q s l f b = true ∧ -10000 ≤ d ∧ d ≤ 10000 then
    (if pathOk q s (shiftRow l d l.length) (wrap64 (f + d)) (wrap64 (b + d)) = true then (q, s, shiftRow l d l.length, wrap64 (f + d), wrap64 (b + d), true) else (0, 0, [], 0, 0, false))
  else (0, 0, [], 0, 0, false)
theorem shiftOf_length (q s : Int) (l : List S52) (f b d : Int) : (shiftOf q s l f b d).2.2.1.length ≤ l.length := by
  unfold shiftOf
  split
  · split
    · exact Nat.le_of_eq (upTo_length _ _ _)
    · exact Nat.zero_le _
  · exact Nat.zero_le _
theorem spec_shift (q s : Int) (l : List S52) (f b d : Int) : Ev (fun k => spec_FlyShift.f k q s l f b d) (shiftOf q s l f b d) := by
  unfold spec_FlyShift.f shiftOf
  refine Ev.bind (spec_pathOk q s l f b) ?_
  by_cases h : pathOk q s l f b = true
  · refine Ev.ite_pos h ?_
    have hf := pathOk_facts h
    rw [spec_in]
    refine Ev.succ ?_
    simp only [spec_FlyShift.j0, Option.bind_some]
    by_cases hc : -10000 ≤ d ∧ d ≤ 10000
    · rw [if_pos ⟨h, hc⟩]
      refine Ev.ite_neg (by simp; omega) ?_
      unfold spec_l22Copy.f
      simp only [Option.bind_some, List.nil_append]
      rw [if_pos (by simp only [List.length_nil]; omega)]
      simp only [Option.bind_some]
      have loop : ∀ m i : Nat, i + m = l.length → Ev (fun k => spec_FlyShift.l0 k d (i : Int) q s (shiftRow l d i) f b) (if pathOk q s (shiftRow l d l.length) (wrap64 (f + d)) (wrap64 (b + d)) = true then (q, s, shiftRow l d l.length, wrap64 (f + d), wrap64 (b + d), true) else (0, 0, [], 0, 0, false)) := by
        intro m
        induction m with
        | zero =>
          intro i hi
          refine Ev.succ ?_
          simp only [spec_FlyShift.l0]
          refine Ev.ite_neg (by unfold shiftRow; rw [upTo_length]; omega) ?_
          rw [show i = l.length by omega]
          refine Ev.bind (spec_pathOk q s _ _ _) ?_
          by_cases h2 : pathOk q s (shiftRow l d l.length) (wrap64 (f + d)) (wrap64 (b + d)) = true
          · exact Ev.cast (Ev.ite_pos h2 (Ev.val _)) (if_pos h2).symm
          · exact Ev.cast (Ev.ite_neg h2 (Ev.val _)) (if_neg h2).symm
        | succ m ih =>
          intro i hi
          refine Ev.succ ?_
          simp only [spec_FlyShift.l0, Option.bind_some, Int.toNat_natCast]
          refine Ev.ite_pos (by unfold shiftRow; rw [upTo_length]; omega) (Ev.ite_pos (by omega) ?_)
          have hl : i < (shiftRow l d i).length := by unfold shiftRow; rw [upTo_length]; omega
          have hr : rd_T52 (shiftRow l d i) (i : Int) = rd_T52 l (i : Int) := by unfold shiftRow; rw [upTo_rd _ l i i (by omega), if_neg (by omega)]
          rw [w64 (show -9223372036854775808 ≤ (i : Int) + 1 by omega) (by omega)]
          simp only [rd_setS _ i hl, List.set_set, hr]
          have := ih (i + 1) (by omega)
          rw [show shiftRow l d (i + 1) = (shiftRow l d i).set i (shiftStep d (rd_T52 l (i : Int))) from (upTo_set _ l i (by omega)).symm] at this
          exact this
      have := loop l.length 0 (by omega)
      rw [show shiftRow l d 0 = l from upTo_zero _ l] at this
      exact this
    · rw [if_neg (fun hh => hc hh.2)]
      exact Ev.ite_pos (by simp; omega) (Ev.val _)
  · rw [if_neg (fun hh => h hh.1)]
    refine Ev.ite_neg h (Ev.succ ?_)
    simp only [spec_FlyShift.j0]
    exact Ev.ite_pos trivial (Ev.val _)
theorem xor_small (a b : Nat) (ha : a < 4611686018427387904) (hb : b < 4611686018427387904) : ∃ m : Nat, m < 4611686018427387904 ∧ Go.bits .xor .i64 (a : Int) (b : Int) = (m : Int) := by
  have hx : a ^^^ b < 2 ^ 62 := Nat.xor_lt_two_pow (by omega) (by omega)
  have h1 : (BitVec.ofInt 64 (a : Int)).toNat = a := by
    rw [BitVec.ofInt_natCast, BitVec.toNat_ofNat]; exact Nat.mod_eq_of_lt (by omega)
  have h2 : (BitVec.ofInt 64 (b : Int)).toNat = b := by
    rw [BitVec.ofInt_natCast, BitVec.toNat_ofNat]; exact Nat.mod_eq_of_lt (by omega)
  refine ⟨a ^^^ b, by omega, ?_⟩
  show IntKind.i64.wrap ((BitVec.ofInt 64 (a : Int) ^^^ BitVec.ofInt 64 (b : Int)).toNat : Int) = _
  rw [BitVec.toNat_xor, h1, h2]
  simp only [IntKind.wrap, IntKind.bits, IntKind.signed]
  simp
  omega
theorem byte_range {l : List Int} (hl : ∀ x ∈ l, (Lit.int .u8 x).wf = true) (i : Int) : 0 ≤ rd l i ∧ rd l i ≤ 255 := by
  by_cases h : i.toNat < l.length
  · have e : rd l i = l[i.toNat] := by
      show l.getD i.toNat 0 = _
      rw [List.getD_eq_getElem?_getD, List.getElem?_eq_getElem h]; rfl
    have := hl _ (List.getElem_mem h)
    rw [← e] at this
    simp only [Lit.wf, Bool.and_eq_true, decide_eq_true_eq] at this
    have h3 : IntKind.u8.min = 0 := rfl
    have h4 : IntKind.u8.max = 255 := rfl
    omega
  · have e : rd l i = 0 := by
      show l.getD i.toNat 0 = _
      rw [List.getD_eq_getElem?_getD, List.getElem?_eq_none (by omega)]; rfl
    omega
theorem tmod_range (x n : Int) (hx : 0 ≤ x) (hn : 0 < n) : 0 ≤ Int.tmod x n ∧ Int.tmod x n < n := ⟨Int.tmod_nonneg n hx, Int.tmod_lt_of_pos x hn⟩
theorem tdiv_range (x n : Int) (hx : 0 ≤ x) (hn : 0 < n) : 0 ≤ Int.tdiv x n ∧ Int.tdiv x n ≤ x := by
  rw [Int.tdiv_eq_ediv_of_nonneg hx]
  refine ⟨Int.ediv_nonneg hx (by omega), Int.ediv_le_self n hx⟩
/-- A number from 0 to n - 1, 0 if there is none; the place moves on by one. -/
theorem pick_ev (l : List Int) (hl : ∀ x ∈ l, (Lit.int .u8 x).wf = true) (hlen : l.length ≤ 2000) (p n : Int) (hp : 0 ≤ p) (hp2 : p ≤ 1000000) :
    ∃ v, 0 ≤ v ∧ (1 ≤ n → v < n) ∧ Ev (fun k => spec_l21Rd_pick.f k l p n) (v, p + 1) := by
  unfold spec_l21Rd_pick.f
  by_cases hn : n < 1
  · refine ⟨0, by omega, by omega, ?_⟩
    refine Ev.ite_pos hn (Ev.succ ?_)
    simp only [spec_l21Rd_pick.j0]
    rw [w64 (show -9223372036854775808 ≤ p + 1 by omega) (by omega)]
    exact Ev.ite_pos trivial (Ev.val _)
  simp only [w64 (show -9223372036854775808 ≤ p + 1 by omega) (show p + 1 ≤ 9223372036854775807 by omega), if_neg (show ¬ n < 1 by omega)]
  have hw : ∀ v : Int, -1000000000000 ≤ v → v ≤ 1000000000000 → wrap64 v = v := fun v h1 h2 => w64 (by omega) (by omega)
  by_cases h0 : l.length = 0
  · refine ⟨0, by omega, by omega, ?_⟩
    rw [show ((l.length : Int) == 0) = true from by rw [h0]; rfl]
    refine Ev.succ ?_
    simp only [spec_l21Rd_pick.j0]
    exact Ev.ite_pos trivial (Ev.val _)
  · rw [show ((l.length : Int) == 0) = false from by rw [beq_eq_false_iff_ne]; omega]
    by_cases h1 : p < (l.length : Int)
    · have hb := byte_range hl p
      have ht := tmod_range (rd l p) n hb.1 (by omega)
      refine ⟨Int.tmod (rd l p) n, ht.1, fun _ => ht.2, ?_⟩
      refine Ev.succ ?_
      simp only [spec_l21Rd_pick.j0]
      rw [hw (p + 1 - 1) (by omega) (by omega), show p + 1 - 1 = p by omega, hw (rd l p) (by omega) (by omega)]
      exact Ev.ite_neg (by decide) (Ev.ite_pos h1 (Ev.ite_pos hp (Ev.ite_neg (by omega) (Ev.val _))))
    · have t1 := tmod_range p (l.length : Int) hp (by omega)
      have t2 := tmod_range (p * 7 + 3) (l.length : Int) (by omega) (by omega)
      have t3 := tdiv_range p (l.length : Int) hp (by omega)
      have b1 := byte_range hl (Int.tmod p (l.length : Int))
      have b2 := byte_range hl (Int.tmod (p * 7 + 3) (l.length : Int))
      obtain ⟨X, hX⟩ : ∃ X : Int, X = rd l (Int.tmod p (l.length : Int)) * 131 + rd l (Int.tmod (p * 7 + 3) (l.length : Int)) * 1117 + p * 29 + Int.tdiv p (l.length : Int) * 53 := ⟨_, rfl⟩
      have hX0 : 0 ≤ X ∧ X ≤ 1000000000 := by omega
      have d1 := tdiv_range X 64 hX0.1 (by omega)
      obtain ⟨m, hm, hme⟩ := xor_small X.toNat (Int.tdiv X 64).toNat (by omega) (by omega)
      rw [show ((X.toNat : Nat) : Int) = X by omega, show (((Int.tdiv X 64).toNat : Nat) : Int) = Int.tdiv X 64 by omega] at hme
      have ht := tmod_range (m : Int) n (by omega) (by omega)
      refine ⟨Int.tmod (m : Int) n, ht.1, fun _ => ht.2, ?_⟩
      refine Ev.succ ?_
      simp only [spec_l21Rd_pick.j0]
      rw [hw (p + 1 - 1) (by omega) (by omega), show p + 1 - 1 = p by omega, hw (p * 7) (by omega) (by omega), hw (p * 7 + 3) (by omega) (by omega), hw (Int.tdiv p (l.length : Int)) (by omega) (by omega), hw (p * 29) (by omega) (by omega), hw (Int.tdiv p (l.length : Int) * 53) (by omega) (by omega), hw (rd l (Int.tmod p (l.length : Int))) (by omega) (by omega), hw (rd l (Int.tmod (p * 7 + 3) (l.length : Int))) (by omega) (by omega), hw (rd l (Int.tmod p (l.length : Int)) * 131) (by omega) (by omega), hw (rd l (Int.tmod (p * 7 + 3) (l.length : Int)) * 1117) (by omega) (by omega), hw (rd l (Int.tmod p (l.length : Int)) * 131 + rd l (Int.tmod (p * 7 + 3) (l.length : Int)) * 1117) (by omega) (by omega), hw (rd l (Int.tmod p (l.length : Int)) * 131 + rd l (Int.tmod (p * 7 + 3) (l.length : Int)) * 1117 + p * 29) (by omega) (by omega), ← hX, hw X (by omega) (by omega), hw (Int.tdiv X 64) (by omega) (by omega), hme]
      exact Ev.ite_neg (by decide) (Ev.ite_neg h1 (Ev.ite_neg (by omega) (Ev.ite_pos t1.1 (Ev.ite_pos t1.2 (Ev.ite_pos t2.1 (Ev.ite_pos t2.2 (Ev.ite_neg (by omega) (Ev.val _))))))))
theorem open_ev (l : List Int) (hl : ∀ x ∈ l, (Lit.int .u8 x).wf = true) : ∃ l', (∀ x ∈ l', (Lit.int .u8 x).wf = true) ∧ l'.length ≤ 2000 ∧ spec_l21Open.f l = some (l', 0) := by
  unfold spec_l21Open.f
  by_cases h : (l.length : Int) > 2000
  · exact ⟨l.take 2000, fun x hx => hl x (List.mem_of_mem_take hx), by rw [List.length_take]; omega, by rw [if_pos h, if_pos (by omega)]⟩
  · exact ⟨l, hl, by omega, by rw [if_neg h]⟩
/-! #### what is drawn is drawn -/
abbrev Bytes (l : List Int) : Prop := ∀ x ∈ l, (Lit.int .u8 x).wf = true
def PathOut (q s : Int) (n : Nat) (p P : Int) (F : Nat → Option (Int × Int × List S52 × Int × Int × Int)) : Prop := ∃ st f b p', st.length = n ∧ p ≤ p' ∧ p' ≤ P ∧ Ev F (q, s, st, f, b, p')
theorem PathOut.widen {q s : Int} {n : Nat} {p p2 P P2 : Int} {F : Nat → Option (Int × Int × List S52 × Int × Int × Int)} (h : PathOut q s n p2 P2 F) (h1 : p ≤ p2) (h2 : P2 ≤ P) : PathOut q s n p P F := by
  obtain ⟨st, f, b, p', e, a1, a2, h⟩ := h
  exact ⟨st, f, b, p', e, by omega, by omega, h⟩
theorem less_ev (a b : Int) : ∃ v, spec_l30Less.f a b = some v := by
  unfold spec_l30Less.f
  by_cases h : b > a
  · exact ⟨_, if_pos h⟩
  · exact ⟨_, if_neg h⟩
section
variable (l : List Int) (hl : Bytes l) (hlen : l.length ≤ 2000)
include hl hlen
theorem kind_ev (p : Int) (hp : 0 ≤ p) (hp2 : p ≤ 900000) : ∃ q s, Ev (fun k => spec_l30Kind.f k l p) (q, s, p + 1 + 1 + 1) := by
  unfold spec_l30Kind.f
  obtain ⟨v1, _, _, h1⟩ := pick_ev l hl hlen p 3 hp (by omega)
  obtain ⟨v2, _, _, h2⟩ := pick_ev l hl hlen (p + 1) 4 (by omega) (by omega)
  obtain ⟨v3, _, _, h3⟩ := pick_ev l hl hlen (p + 1 + 1) 16 (by omega) (by omega)
  by_cases c : v3 = 0
  · exact ⟨_, _, Ev.bind h1 (Ev.bind h2 (Ev.bind h3 (Ev.ite_pos c (Ev.val _))))⟩
  · exact ⟨_, _, Ev.bind h1 (Ev.bind h2 (Ev.bind h3 (Ev.ite_neg c (Ev.val _))))⟩
theorem step_loop_ev (x y : Int) : ∀ (d : Nat) (i p : Int), i + (d : Int) = 20 → 0 ≤ i → 0 ≤ p → p + 2 * (d : Int) ≤ 900000 → ∃ a b p', p ≤ p' ∧ p' ≤ p + 2 * (d : Int) ∧ Ev (fun k => spec_l30Step.l0 k x y i l p) (a, b, p') := by
  intro d
  induction d with
  | zero =>
    intro i p hi h0 hp hp2
    by_cases c : x > 0
    · refine ⟨wrap64 (x - 1), y, p, by omega, by omega, Ev.succ ?_⟩
      simp only [spec_l30Step.l0]
      exact Ev.ite_neg (by omega) (Ev.ite_pos c (Ev.val _))
    · refine ⟨wrap64 (x + 1), y, p, by omega, by omega, Ev.succ ?_⟩
      simp only [spec_l30Step.l0]
      exact Ev.ite_neg (by omega) (Ev.ite_neg c (Ev.val _))
  | succ d ih =>
    intro i p hi h0 hp hp2
    obtain ⟨v1, _, _, h1⟩ := pick_ev l hl hlen p 3 hp (by omega)
    obtain ⟨v2, _, _, h2⟩ := pick_ev l hl hlen (p + 1) 3 (by omega) (by omega)
    obtain ⟨A, hA⟩ : ∃ A, A = wrap64 (wrap64 (x + v1) - 1) := ⟨_, rfl⟩
    obtain ⟨B, hB⟩ : ∃ B, B = wrap64 (wrap64 (y + v2) - 1) := ⟨_, rfl⟩
    obtain ⟨a, b, p', q1, q2, hr⟩ := ih (i + 1) (p + 1 + 1) (by omega) (by omega) (by omega) (by omega)
    have inner : ∃ a b p', p ≤ p' ∧ p' ≤ p + 2 * ((d + 1 : Nat) : Int) ∧ Ev (fun k => if decide (0 ≤ A ∧ A ≤ 15) = true then (if decide (0 ≤ B ∧ B ≤ 15) = true then some (A, B, p + 1 + 1) else spec_l30Step.l0 k x y (i + 1) l (p + 1 + 1)) else spec_l30Step.l0 k x y (i + 1) l (p + 1 + 1)) (a, b, p') := by
      by_cases c1 : decide (0 ≤ A ∧ A ≤ 15) = true
      · by_cases c2 : decide (0 ≤ B ∧ B ≤ 15) = true
        · exact ⟨A, B, p + 1 + 1, by omega, by omega, Ev.ite_pos c1 (Ev.ite_pos c2 (Ev.val _))⟩
        · exact ⟨a, b, p', by omega, by omega, Ev.ite_pos c1 (Ev.ite_neg c2 hr)⟩
      · exact ⟨a, b, p', by omega, by omega, Ev.ite_neg c1 hr⟩
    obtain ⟨a2, b2, p2, r1, r2, hr2⟩ := inner
    have e1 : wrap64 (i + 1) = i + 1 := w64 (by omega) (by omega)
    by_cases c1 : A = x
    · by_cases c2 : B = y
      · refine ⟨a, b, p', by omega, by omega, Ev.succ ?_⟩
        simp only [spec_l30Step.l0, spec_in, Option.bind_some, e1]
        refine Ev.ite_pos (by omega) (Ev.bind h1 (Ev.bind h2 ?_))
        simp only [← hA, ← hB]
        exact Ev.ite_pos c1 (Ev.ite_pos c2 hr)
      · refine ⟨a2, b2, p2, r1, r2, Ev.succ ?_⟩
        simp only [spec_l30Step.l0, spec_in, Option.bind_some, e1]
        refine Ev.ite_pos (by omega) (Ev.bind h1 (Ev.bind h2 ?_))
        simp only [← hA, ← hB]
        exact Ev.ite_pos c1 (Ev.ite_neg c2 hr2)
    · refine ⟨a2, b2, p2, r1, r2, Ev.succ ?_⟩
      simp only [spec_l30Step.l0, spec_in, Option.bind_some, e1]
      refine Ev.ite_pos (by omega) (Ev.bind h1 (Ev.bind h2 ?_))
      simp only [← hA, ← hB]
      exact Ev.ite_neg c1 hr2
theorem step_ev (x y p : Int) (hp : 0 ≤ p) (hp2 : p ≤ 800000) : ∃ a b p', p ≤ p' ∧ p' ≤ p + 40 ∧ Ev (fun k => spec_l30Step.f k l p x y) (a, b, p') := by
  unfold spec_l30Step.f
  obtain ⟨a, b, p', h1, h2, h⟩ := step_loop_ev l hl hlen x y 20 0 p (by omega) (by omega) hp (by omega)
  exact ⟨a, b, p', h1, by omega, h⟩
theorem path_loop_ev (q s n a3 a4 : Int) (hn : n ≤ 1000) : ∀ (d : Nat) (i x4 x5 x6 x7 : Int) (st : List S52) (p : Int), i + (d : Int) = n → 0 ≤ i → st.length + d ≤ 1000 → 0 ≤ p → p + 60 * ((d : Int) + 1) ≤ 800000 →
    PathOut q s (st.length + d) p (p + 60 * ((d : Int) + 1)) (fun k => spec_l30Path.l0 k x4 x5 x6 x7 n i l p q s st a3 a4) := by
  intro d
  induction d with
  | zero =>
    intro i x4 x5 x6 x7 st p hi h0 hs hp hp2
    obtain ⟨v1, _, _, h1⟩ := pick_ev l hl hlen p 5 hp (by omega)
    obtain ⟨t1, ht1⟩ := less_ev x4 v1
    obtain ⟨v2, _, _, h2⟩ := pick_ev l hl hlen (p + 1) 9 (by omega) (by omega)
    refine ⟨st, t1, wrap64 (x4 + v2), p + 1 + 1, rfl, by omega, by omega, Ev.succ ?_⟩
    simp only [spec_l30Path.l0]
    exact Ev.ite_neg (by omega) (Ev.bind h1 (Ev.bind (Ev.const ht1) (Ev.bind h2 (Ev.val _))))
  | succ d ih =>
    intro i x4 x5 x6 x7 st p hi h0 hs hp hp2
    have e1 : wrap64 (i + 1) = i + 1 := w64 (by omega) (by omega)
    have fin : ∀ {P Q : Int} {m : Nat} {F : Nat → Option (Int × Int × List S52 × Int × Int × Int)}, PathOut q s m P Q F → m = st.length + (d + 1) → p ≤ P → Q ≤ p + 60 * (((d + 1 : Nat) : Int) + 1) → PathOut q s (st.length + (d + 1)) p (p + 60 * (((d + 1 : Nat) : Int) + 1)) F := by
      intro P Q m F h e1 e2 e3
      rw [← e1]
      exact h.widen e2 e3
    have j4 : ∀ (y : List S52) (pp x11 z0 z1 z2 z3 z4 z5 : Int) (z6 : Bool), y.length = st.length + 1 → p ≤ pp → pp ≤ p + 15 → PathOut q s (st.length + (d + 1)) p (p + 60 * (((d + 1 : Nat) : Int) + 1)) (fun k => spec_l30Path.j4 k x4 x5 x6 n i x11 l pp q s y a3 a4 z0 z1 z2 z3 z4 z5 z6) := by
      intro y pp x11 z0 z1 z2 z3 z4 z5 z6 hy h1 h2
      obtain ⟨a, b, p1, r1, r2, hst⟩ := step_ev l hl hlen x5 x6 pp (by omega) (by omega)
      obtain ⟨v, _, _, hv⟩ := pick_ev l hl hlen p1 2 (by omega) (by omega)
      obtain ⟨t, ht⟩ := less_ev z3 v
      have next : ∀ x7' : Int, PathOut q s (st.length + (d + 1)) p (p + 60 * (((d + 1 : Nat) : Int) + 1)) (fun k => spec_l30Path.l0 k (wrap64 (x4 + x11)) a b x7' n (i + 1) l (p1 + 1) q s y a3 a4) := fun x7' =>
        fin (ih (i + 1) (wrap64 (x4 + x11)) a b x7' y (p1 + 1) (by omega) (by omega) (by omega) (by omega) (by omega)) (by omega) (by omega) (by omega)
      by_cases c : t > 3
      · obtain ⟨st', f, b', p', g1, g2, g3, hr⟩ := next 3
        refine ⟨st', f, b', p', g1, g2, g3, Ev.succ ?_⟩
        simp only [spec_l30Path.j4, e1]
        exact Ev.bind hst (Ev.bind hv (Ev.bind (Ev.const ht) (Ev.ite_pos c hr)))
      · obtain ⟨st', f, b', p', g1, g2, g3, hr⟩ := next t
        refine ⟨st', f, b', p', g1, g2, g3, Ev.succ ?_⟩
        simp only [spec_l30Path.j4, e1]
        exact Ev.bind hst (Ev.bind hv (Ev.bind (Ev.const ht) (Ev.ite_neg c hr)))
    have j3 : ∀ (y : List S52) (pp x11 z0 z1 z2 z3 z4 z5 : Int) (z6 c : Bool), y.length = st.length + 1 → p ≤ pp → pp ≤ p + 14 → PathOut q s (st.length + (d + 1)) p (p + 60 * (((d + 1 : Nat) : Int) + 1)) (fun k => spec_l30Path.j3 k x4 x5 x6 n i x11 c l pp q s y a3 a4 z0 z1 z2 z3 z4 z5 z6) := by
      intro y pp x11 z0 z1 z2 z3 z4 z5 z6 c hy h1 h2
      cases c with
      | true =>
        obtain ⟨v, _, _, hv⟩ := pick_ev l hl hlen pp 20 (by omega) (by omega)
        obtain ⟨st', f, b', p', g1, g2, g3, hr⟩ := j4 y (pp + 1) (wrap64 (q + v)) z0 z1 z2 z3 z4 z5 z6 hy (by omega) (by omega)
        refine ⟨st', f, b', p', g1, g2, g3, Ev.succ ?_⟩
        simp only [spec_l30Path.j3]
        exact Ev.ite_pos (by first | rfl | trivial) (Ev.bind hv hr)
      | false =>
        obtain ⟨st', f, b', p', g1, g2, g3, hr⟩ := j4 y pp x11 z0 z1 z2 z3 z4 z5 z6 hy (by omega) (by omega)
        refine ⟨st', f, b', p', g1, g2, g3, Ev.succ ?_⟩
        simp only [spec_l30Path.j3]
        exact Ev.ite_neg (by decide) hr
    have j2 : ∀ (pp z0 z1 z2 z3 z4 z5 : Int) (z6 : Bool), p ≤ pp → pp ≤ p + 10 → PathOut q s (st.length + (d + 1)) p (p + 60 * (((d + 1 : Nat) : Int) + 1)) (fun k => spec_l30Path.j2 k x4 x5 x6 n i l pp q s st a3 a4 z0 z1 z2 z3 z4 z5 z6) := by
      intro pp z0 z1 z2 z3 z4 z5 z6 h1 h2
      obtain ⟨v, _, _, hv⟩ := pick_ev l hl hlen pp (wrap64 ((wrap64 (s - q)) + 1)) (by omega) (by omega)
      have hy : (st ++ [(⟨z0, z1, z2, z3, z4, z5, z6⟩ : S52)]).length = st.length + 1 := by simp
      cases z6 with
      | true =>
        obtain ⟨u, _, _, hu⟩ := pick_ev l hl hlen (pp + 1) 2 (by omega) (by omega)
        obtain ⟨st', f, b', p', g1, g2, g3, hr⟩ := j3 (st ++ [(⟨z0, z1, z2, z3, z4, z5, true⟩ : S52)]) (pp + 1 + 1) (wrap64 (q + v)) z0 z1 z2 z3 z4 z5 true (u == 0) hy (by omega) (by omega)
        refine ⟨st', f, b', p', g1, g2, g3, Ev.succ ?_⟩
        simp only [spec_l30Path.j2, Option.bind_some]
        exact Ev.ite_pos (by omega) (Ev.bind hv (Ev.ite_pos (by first | rfl | trivial) (Ev.bind hu hr)))
      | false =>
        obtain ⟨st', f, b', p', g1, g2, g3, hr⟩ := j3 (st ++ [(⟨z0, z1, z2, z3, z4, z5, false⟩ : S52)]) (pp + 1) (wrap64 (q + v)) z0 z1 z2 z3 z4 z5 false false hy (by omega) (by omega)
        refine ⟨st', f, b', p', g1, g2, g3, Ev.succ ?_⟩
        simp only [spec_l30Path.j2, Option.bind_some]
        exact Ev.ite_pos (by omega) (Ev.bind hv (Ev.ite_neg (by decide) hr))
    obtain ⟨v1, _, _, h1⟩ := pick_ev l hl hlen p 3 hp (by omega)
    obtain ⟨v2, _, _, h2⟩ := pick_ev l hl hlen (p + 1) 6 (by omega) (by omega)
    obtain ⟨t1, ht1⟩ := less_ev x4 v2
    obtain ⟨v3, _, _, h3⟩ := pick_ev l hl hlen (p + 1 + 1) 8 (by omega) (by omega)
    obtain ⟨v4, _, _, h4⟩ := pick_ev l hl hlen (p + 1 + 1 + 1) 6 (by omega) (by omega)
    obtain ⟨v5, _, _, h5⟩ := pick_ev l hl hlen (p + 1 + 1 + 1 + 1) 3 (by omega) (by omega)
    by_cases c : v5 = 0
    · obtain ⟨v6, _, _, h6⟩ := pick_ev l hl hlen (p + 1 + 1 + 1 + 1 + 1) 90 (by omega) (by omega)
      obtain ⟨st', f, b', p', g1, g2, g3, hr⟩ := j2 (p + 1 + 1 + 1 + 1 + 1 + 1) x5 x6 x7 (wrap64 (x7 + v1)) 0 (wrap64 (x4 + v6)) (v4 == 0) (by omega) (by omega)
      refine ⟨st', f, b', p', g1, g2, g3, Ev.succ ?_⟩
      simp only [spec_l30Path.l0]
      exact Ev.ite_pos (by omega) (Ev.bind h1 (Ev.bind h2 (Ev.bind (Ev.const ht1) (Ev.bind h3 (Ev.bind h4 (Ev.bind h5 (Ev.ite_pos c (Ev.bind h6 hr))))))))
    · obtain ⟨st', f, b', p', g1, g2, g3, hr⟩ := j2 (p + 1 + 1 + 1 + 1 + 1) x5 x6 x7 (wrap64 (x7 + v1)) t1 (wrap64 (x4 + v3)) (v4 == 0) (by omega) (by omega)
      refine ⟨st', f, b', p', g1, g2, g3, Ev.succ ?_⟩
      simp only [spec_l30Path.l0]
      exact Ev.ite_pos (by omega) (Ev.bind h1 (Ev.bind h2 (Ev.bind (Ev.const ht1) (Ev.bind h3 (Ev.bind h4 (Ev.bind h5 (Ev.ite_neg c hr)))))))
theorem path_ev (p : Int) (hp : 0 ≤ p) (hp2 : p ≤ 100000) : ∃ q s st f b p', 1 ≤ st.length ∧ st.length ≤ 40 ∧ p ≤ p' ∧ p' ≤ p + 3000 ∧ Ev (fun k => spec_l30Path.f k l p) (q, s, st, f, b, p') := by
  unfold spec_l30Path.f
  obtain ⟨q, s, h0⟩ := kind_ev l hl hlen p hp (by omega)
  obtain ⟨v1, _, _, h1⟩ := pick_ev l hl hlen (p + 1 + 1 + 1) 30 (by omega) (by omega)
  obtain ⟨v2, _, _, h2⟩ := pick_ev l hl hlen (p + 1 + 1 + 1 + 1) 16 (by omega) (by omega)
  obtain ⟨v3, _, _, h3⟩ := pick_ev l hl hlen (p + 1 + 1 + 1 + 1 + 1) 16 (by omega) (by omega)
  obtain ⟨v4, _, _, h4⟩ := pick_ev l hl hlen (p + 1 + 1 + 1 + 1 + 1 + 1) 4 (by omega) (by omega)
  obtain ⟨v5, a5, b5, h5⟩ := pick_ev l hl hlen (p + 1 + 1 + 1 + 1 + 1 + 1 + 1) 8 (by omega) (by omega)
  obtain ⟨v6, _, _, h6⟩ := pick_ev l hl hlen (p + 1 + 1 + 1 + 1 + 1 + 1 + 1 + 1) 24 (by omega) (by omega)
  have go : ∀ (n pp : Int), 1 ≤ n → n ≤ 40 → p ≤ pp → pp ≤ p + 20 → ∃ st f b p', 1 ≤ st.length ∧ st.length ≤ 40 ∧ p ≤ p' ∧ p' ≤ p + 3000 ∧ Ev (fun k => spec_l30Path.j0 k v1 v2 v3 v4 n l pp q s 0 0) (q, s, st, f, b, p') := by
    intro n pp hn1 hn2 hpp hpp2
    obtain ⟨d, hd⟩ : ∃ d : Nat, (d : Int) = n := ⟨n.toNat, by omega⟩
    obtain ⟨st, f, b, p', g1, g2, g3, hr⟩ := path_loop_ev l hl hlen q s n 0 0 (by omega) d 0 v1 v2 v3 v4 [] pp (by omega) (by omega) (by simp only [List.length_nil]; omega) (by omega) (by omega)
    simp only [List.length_nil] at g1
    refine ⟨st, f, b, p', by omega, by omega, by omega, by omega, Ev.succ ?_⟩
    simp only [spec_l30Path.j0]
    exact hr
  by_cases c : v6 = 0
  · obtain ⟨v7, a7, b7, h7⟩ := pick_ev l hl hlen (p + 1 + 1 + 1 + 1 + 1 + 1 + 1 + 1 + 1) 2 (by omega) (by omega)
    have := b7 (by omega)
    obtain ⟨st, f, b, p', g1, g2, g3, g4, hr⟩ := go (40 - v7) (p + 1 + 1 + 1 + 1 + 1 + 1 + 1 + 1 + 1 + 1) (by omega) (by omega) (by omega) (by omega)
    refine ⟨q, s, st, f, b, p', g1, g2, g3, g4, Ev.bind h0 (Ev.bind h1 (Ev.bind h2 (Ev.bind h3 (Ev.bind h4 (Ev.bind h5 (Ev.bind h6 (Ev.ite_pos c (Ev.bind h7 ?_))))))))⟩
    show Ev (fun k => spec_l30Path.j0 k v1 v2 v3 v4 (wrap64 (40 - v7)) l _ q s 0 0) _
    rw [w64 (by omega) (by omega)]
    exact hr
  · have := b5 (by omega)
    obtain ⟨st, f, b, p', g1, g2, g3, g4, hr⟩ := go (1 + v5) (p + 1 + 1 + 1 + 1 + 1 + 1 + 1 + 1 + 1) (by omega) (by omega) (by omega) (by omega)
    refine ⟨q, s, st, f, b, p', g1, g2, g3, g4, Ev.bind h0 (Ev.bind h1 (Ev.bind h2 (Ev.bind h3 (Ev.bind h4 (Ev.bind h5 (Ev.bind h6 (Ev.ite_neg c ?_)))))))⟩
    show Ev (fun k => spec_l30Path.j0 k v1 v2 v3 v4 (wrap64 (1 + v5)) l _ q s 0 0) _
    rw [w64 (by omega) (by omega)]
    exact hr
theorem grow_loop_ev (q s f b : Int) : ∀ (d : Nat) (st : List S52) (p : Int), 1 ≤ st.length → 0 ≤ p → p + (d : Int) ≤ 800000 → st.length + d = 41 → ∃ r p', r.length ≤ 41 ∧ p ≤ p' ∧ p' ≤ p + (d : Int) + 1 ∧ Ev (fun k => spec_l30Spoil.l0 k l p q s st f b) (q, s, r, f, b, p') := by
  intro d
  induction d with
  | zero =>
    intro st p h1 hp hp2 hd
    obtain ⟨v, _, c1, hv⟩ := pick_ev l hl hlen p 2 hp (by omega)
    have := c1 (by omega)
    refine ⟨st, p + 1, by omega, by omega, by omega, Ev.succ ?_⟩
    simp only [spec_l30Spoil.l0]
    refine Ev.bind hv (Ev.ite_neg ?_ (Ev.val _))
    show ¬ (st.length : Int) < wrap64 (40 + v)
    rw [w64 (by omega) (by omega)]; omega
  | succ d ih =>
    intro st p h1 hp hp2 hd
    obtain ⟨v, v0, c1, hv⟩ := pick_ev l hl hlen p 2 hp (by omega)
    have := c1 (by omega)
    have el : wrap64 ((st.length : Int) - 1) = (st.length : Int) - 1 := w64 (by omega) (by omega)
    by_cases hc : (st.length : Int) < 40 + v
    · have hc' : (st.length : Int) < wrap64 (40 + v) := by rw [w64 (by omega) (by omega)]; exact hc
      by_cases cx : (rd_T52 st ((st.length : Int) - 1)).f0 > 0
      · obtain ⟨r, p', g1, g2, g3, hr⟩ := ih (st ++ [(⟨wrap64 (((rd_T52 st ((st.length : Int) - 1)).f0) - 1), (rd_T52 st ((st.length : Int) - 1)).f1, (rd_T52 st ((st.length : Int) - 1)).f2, (rd_T52 st ((st.length : Int) - 1)).f3, (rd_T52 st ((st.length : Int) - 1)).f4, (rd_T52 st ((st.length : Int) - 1)).f5, (rd_T52 st ((st.length : Int) - 1)).f6⟩ : S52)]) (p + 1) (by simp) (by omega) (by omega) (by simp; omega)
        refine ⟨r, p', g1, by omega, by omega, Ev.succ ?_⟩
        simp only [spec_l30Spoil.l0, el]
        exact Ev.bind hv (Ev.ite_pos hc' (Ev.ite_pos (by omega) (Ev.ite_pos (by omega) (Ev.ite_pos cx (Ev.ite_pos (by omega) hr)))))
      · obtain ⟨r, p', g1, g2, g3, hr⟩ := ih (st ++ [(⟨wrap64 (((rd_T52 st ((st.length : Int) - 1)).f0) + 1), (rd_T52 st ((st.length : Int) - 1)).f1, (rd_T52 st ((st.length : Int) - 1)).f2, (rd_T52 st ((st.length : Int) - 1)).f3, (rd_T52 st ((st.length : Int) - 1)).f4, (rd_T52 st ((st.length : Int) - 1)).f5, (rd_T52 st ((st.length : Int) - 1)).f6⟩ : S52)]) (p + 1) (by simp) (by omega) (by omega) (by simp; omega)
        refine ⟨r, p', g1, by omega, by omega, Ev.succ ?_⟩
        simp only [spec_l30Spoil.l0, el]
        exact Ev.bind hv (Ev.ite_pos hc' (Ev.ite_pos (by omega) (Ev.ite_pos (by omega) (Ev.ite_neg cx (Ev.ite_pos (by omega) hr)))))
    · refine ⟨st, p + 1, by omega, by omega, by omega, Ev.succ ?_⟩
      simp only [spec_l30Spoil.l0]
      refine Ev.bind hv (Ev.ite_neg ?_ (Ev.val _))
      show ¬ (st.length : Int) < wrap64 (40 + v)
      rw [w64 (by omega) (by omega)]; exact hc
theorem spoil_ev (q s : Int) (st : List S52) (f b : Int) (hs1 : 1 ≤ st.length) (hs2 : st.length ≤ 40) (p : Int) (hp : 0 ≤ p) (hp2 : p ≤ 100000) : ∃ q' s' st' f' b' p', st'.length ≤ 41 ∧ p ≤ p' ∧ p' ≤ p + 100 ∧ Ev (fun k => spec_l30Spoil.f k l p q s st f b) (q', s', st', f', b', p') := by
  unfold spec_l30Spoil.f spec_l22Copy.f
  simp only [Option.bind_some, List.nil_append, if_pos (show ([] : List S52).length + st.length < 2513169434916 by simp only [List.length_nil]; omega)]
  obtain ⟨i, i0, i1, h1⟩ := pick_ev l hl hlen p (st.length : Int) hp (by omega)
  have hi := i1 (by omega)
  obtain ⟨v, _, _, h2⟩ := pick_ev l hl hlen (p + 1) 12 (by omega) (by omega)
  have hset : ∀ (n : Nat) (z : S52), (st.set n z).length ≤ 41 := fun n z => by rw [List.length_set]; omega
  have el : wrap64 ((st.length : Int) - 1) = (st.length : Int) - 1 := w64 (by omega) (by omega)
  have pk := fun n => pick_ev l hl hlen (p + 1 + 1) n (by omega) (by omega)
  obtain ⟨w5, _, _, h5⟩ := pk 5
  obtain ⟨w3, a3, b3, h3⟩ := pk 3
  obtain ⟨w6, _, _, h6⟩ := pk 6
  obtain ⟨w9, _, _, h9⟩ := pk 9
  obtain ⟨w4, a4, b4, h4⟩ := pk 4
  have b3 := b3 (by omega)
  have b4 := b4 (by omega)
  by_cases c0 : v = 0
  · exact ⟨_, _, st, _, _, p + 1 + 1 + 1, by omega, by omega, by omega, Ev.bind h1 (Ev.bind h2 (Ev.ite_pos c0 (Ev.bind h5 (Ev.val _))))⟩
  by_cases c1 : v = 1
  · exact ⟨_, _, _, _, _, p + 1 + 1 + 1, hset _ _, by omega, by omega, Ev.bind h1 (Ev.bind h2 (Ev.ite_neg c0 (Ev.ite_pos c1 (Ev.ite_pos i0 (Ev.ite_pos hi (Ev.bind h3 (Ev.ite_pos a3 (Ev.ite_pos (by simp only [List.length_cons, List.length_nil]; omega) (Ev.val _)))))))))⟩
  by_cases c2 : v = 2
  · exact ⟨_, _, _, _, _, p + 1 + 1 + 1, hset _ _, by omega, by omega, Ev.bind h1 (Ev.bind h2 (Ev.ite_neg c0 (Ev.ite_neg c1 (Ev.ite_pos c2 (Ev.bind h6 (Ev.ite_pos i0 (Ev.ite_pos hi (Ev.val _))))))))⟩
  by_cases c3 : v = 3
  · exact ⟨_, _, _, _, _, p + 1 + 1 + 1, hset _ _, by omega, by omega, Ev.bind h1 (Ev.bind h2 (Ev.ite_neg c0 (Ev.ite_neg c1 (Ev.ite_neg c2 (Ev.ite_pos c3 (Ev.bind h9 (Ev.ite_pos i0 (Ev.ite_pos hi (Ev.val _)))))))))⟩
  by_cases c4 : v = 4
  · exact ⟨_, _, _, _, _, p + 1 + 1 + 1, hset _ _, by omega, by omega, Ev.bind h1 (Ev.bind h2 (Ev.ite_neg c0 (Ev.ite_neg c1 (Ev.ite_neg c2 (Ev.ite_neg c3 (Ev.ite_pos c4 (Ev.ite_pos i0 (Ev.ite_pos hi (Ev.bind h3 (Ev.ite_pos a3 (Ev.ite_pos (by simp only [List.length_cons, List.length_nil]; omega) (Ev.val _))))))))))))⟩
  by_cases c5 : v = 5
  · exact ⟨_, _, _, _, _, p + 1 + 1 + 1, hset _ _, by omega, by omega, Ev.bind h1 (Ev.bind h2 (Ev.ite_neg c0 (Ev.ite_neg c1 (Ev.ite_neg c2 (Ev.ite_neg c3 (Ev.ite_neg c4 (Ev.ite_pos c5 (Ev.ite_pos i0 (Ev.ite_pos hi (Ev.bind h4 (Ev.ite_pos a4 (Ev.ite_pos (by simp only [List.length_cons, List.length_nil]; omega) (Ev.val _)))))))))))))⟩
  by_cases c6 : v = 6
  · exact ⟨_, _, st, _, _, p + 1 + 1 + 1, by omega, by omega, by omega, Ev.bind h1 (Ev.bind h2 (Ev.ite_neg c0 (Ev.ite_neg c1 (Ev.ite_neg c2 (Ev.ite_neg c3 (Ev.ite_neg c4 (Ev.ite_neg c5 (Ev.ite_pos c6 (Ev.bind h3 (Ev.val _))))))))))⟩
  by_cases c7 : v = 7
  · exact ⟨_, _, st, _, _, p + 1 + 1 + 1, by omega, by omega, by omega, Ev.bind h1 (Ev.bind h2 (Ev.ite_neg c0 (Ev.ite_neg c1 (Ev.ite_neg c2 (Ev.ite_neg c3 (Ev.ite_neg c4 (Ev.ite_neg c5 (Ev.ite_neg c6 (Ev.ite_pos c7 (Ev.bind h4 (Ev.ite_pos a4 (Ev.ite_pos (by simp only [List.length_cons, List.length_nil]; omega) (Ev.val _)))))))))))))⟩
  by_cases c8 : v = 8
  · exact ⟨_, _, st.take i.toNat, _, _, p + 1 + 1, by rw [List.length_take]; omega, by omega, by omega, Ev.bind h1 (Ev.bind h2 (Ev.ite_neg c0 (Ev.ite_neg c1 (Ev.ite_neg c2 (Ev.ite_neg c3 (Ev.ite_neg c4 (Ev.ite_neg c5 (Ev.ite_neg c6 (Ev.ite_neg c7 (Ev.ite_pos c8 (Ev.ite_pos i0 (Ev.ite_pos (by omega) (Ev.val _)))))))))))))⟩
  by_cases c9 : v = 9
  · obtain ⟨r, p', g1, g2, g3, hr⟩ := grow_loop_ev l hl hlen q s f b (41 - st.length) st (p + 1 + 1) hs1 (by omega) (by omega) (by omega)
    exact ⟨_, _, r, _, _, p', g1, by omega, by omega, Ev.bind h1 (Ev.bind h2 (Ev.ite_neg c0 (Ev.ite_neg c1 (Ev.ite_neg c2 (Ev.ite_neg c3 (Ev.ite_neg c4 (Ev.ite_neg c5 (Ev.ite_neg c6 (Ev.ite_neg c7 (Ev.ite_neg c8 (Ev.ite_pos c9 hr)))))))))))⟩
  by_cases c10 : v = 10
  · exact ⟨_, _, _, _, _, p + 1 + 1, hset _ _, by omega, by omega, Ev.bind h1 (Ev.bind h2 (Ev.ite_neg c0 (Ev.ite_neg c1 (Ev.ite_neg c2 (Ev.ite_neg c3 (Ev.ite_neg c4 (Ev.ite_neg c5 (Ev.ite_neg c6 (Ev.ite_neg c7 (Ev.ite_neg c8 (Ev.ite_neg c9 (Ev.ite_pos c10 (Ev.ite_pos i0 (Ev.ite_pos hi (Ev.val _)))))))))))))))⟩
  · simp only [el]
    refine ⟨_, _, st ++ [(⟨(rd_T52 st ((st.length : Int) - 1)).f0, (rd_T52 st ((st.length : Int) - 1)).f1, (rd_T52 st ((st.length : Int) - 1)).f2, (rd_T52 st ((st.length : Int) - 1)).f3, (rd_T52 st ((st.length : Int) - 1)).f4, (rd_T52 st ((st.length : Int) - 1)).f5, (rd_T52 st ((st.length : Int) - 1)).f6⟩ : S52)], _, _, p + 1 + 1, by simp; omega, by omega, by omega, Ev.bind h1 (Ev.bind h2 (Ev.ite_neg c0 (Ev.ite_neg c1 (Ev.ite_neg c2 (Ev.ite_neg c3 (Ev.ite_neg c4 (Ev.ite_neg c5 (Ev.ite_neg c6 (Ev.ite_neg c7 (Ev.ite_neg c8 (Ev.ite_neg c9 (Ev.ite_neg c10 (Ev.ite_pos (by omega) (Ev.ite_pos (by omega) (Ev.ite_pos (by omega) (Ev.val _))))))))))))))))⟩
end
theorem late_ev (q s : Int) (st : List S52) (f b : Int) (hs : st.length ≤ 40) : ∃ q' s' st' f' b', st'.length ≤ 40 ∧ Ev (fun k => spec_l30Late.f k q s st f b) (q', s', st', f', b') := by
  unfold spec_l30Late.f
  have loop : ∀ (d i : Nat) (m : Int), i + d = st.length → ∃ q' s' st' f' b', st'.length ≤ 40 ∧ Ev (fun k => spec_l30Late.l0 k m (i : Int) q s st f b) (q', s', st', f', b') := by
    intro d
    induction d with
    | zero =>
      intro i m hi
      have hsh := spec_shift q s st f b (wrap64 (10000 - m))
      have hle := shiftOf_length q s st f b (wrap64 (10000 - m))
      by_cases c : (shiftOf q s st f b (wrap64 (10000 - m))).2.2.2.2.2 = true
      · refine ⟨(shiftOf q s st f b (wrap64 (10000 - m))).1, (shiftOf q s st f b (wrap64 (10000 - m))).2.1, (shiftOf q s st f b (wrap64 (10000 - m))).2.2.1, (shiftOf q s st f b (wrap64 (10000 - m))).2.2.2.1, (shiftOf q s st f b (wrap64 (10000 - m))).2.2.2.2.1, by omega, Ev.succ ?_⟩
        simp only [spec_l30Late.l0]
        exact Ev.ite_neg (by omega) (Ev.bind hsh (Ev.ite_pos c (Ev.val _)))
      · refine ⟨q, s, st, f, b, hs, Ev.succ ?_⟩
        simp only [spec_l30Late.l0]
        exact Ev.ite_neg (by omega) (Ev.bind hsh (Ev.ite_neg c (Ev.val _)))
    | succ d ih =>
      intro i m hi
      obtain ⟨q', s', st', f', b', g, hr⟩ := ih (i + 1) (max m (rd_T52 st (i : Int)).f5) (by omega)
      refine ⟨q', s', st', f', b', g, Ev.succ ?_⟩
      simp only [spec_l30Late.l0, spec_max, Option.bind_some]
      rw [w64 (by omega) (by omega)]
      rw [show (((i + 1 : Nat)) : Int) = (i : Int) + 1 by omega] at hr
      exact Ev.ite_pos (by omega) (Ev.ite_pos (by omega) hr)
  exact loop st.length 0 b (by omega)
theorem any_ev (l : List Int) (hl : Bytes l) (hlen : l.length ≤ 2000) : ∃ q s st f b p, st.length ≤ 41 ∧ 0 ≤ p ∧ p ≤ 4000 ∧ Ev (fun k => spec_l30Any.f k l 0) (q, s, st, f, b, p) := by
  unfold spec_l30Any.f
  obtain ⟨q, s, st, f, b, p, g1, g2, g3, g4, h⟩ := path_ev l hl hlen 0 (by omega) (by omega)
  obtain ⟨v, _, _, h1⟩ := pick_ev l hl hlen p 12 (by omega) (by omega)
  by_cases c0 : v = 0
  · obtain ⟨q', s', st', f', b', p', r1, r2, r3, hr⟩ := spoil_ev l hl hlen q s st f b g1 g2 (p + 1) (by omega) (by omega)
    exact ⟨q', s', st', f', b', p', r1, by omega, by omega, Ev.bind h (Ev.bind h1 (Ev.ite_pos c0 (Ev.bind hr (Ev.val _))))⟩
  by_cases c1 : v = 1
  · obtain ⟨q', s', st', f', b', r1, hr⟩ := late_ev q s st f b g2
    exact ⟨q', s', st', f', b', p + 1, by omega, by omega, by omega, Ev.bind h (Ev.bind h1 (Ev.ite_neg c0 (Ev.ite_pos c1 (Ev.bind hr (Ev.val _)))))⟩
  · exact ⟨q, s, st, f, b, p + 1, by omega, by omega, by omega, Ev.bind h (Ev.bind h1 (Ev.ite_neg c0 (Ev.ite_neg c1 (Ev.val _))))⟩
/-! #### flights: spans hold just them -/
section
variable (A B : Nat → Int) (q s : Int) (h : Nat → Bool) (n : Nat)
def Diffs (f : Nat → Int) : Prop := ∀ k, k < n → f k + q ≤ f (k + 1) ∧ (h k = false → f (k + 1) ≤ f k + s)
def Flies (f : Nat → Int) : Prop := (∀ k, k ≤ n → A k ≤ f k ∧ f k ≤ B k) ∧ Diffs q s h n f
variable {A B q s h n}
theorem flies_fwd {f : Nat → Int} (hf : Flies A B q s h n f) : ∀ k, k ≤ n → fwdL idw A q k ≤ f k ∧ f k ≤ fwdH idw B s h k := by
  intro k
  induction k with
  | zero => intro hk; simp only [fwdL, fwdH]; exact hf.1 0 hk
  | succ k ih =>
    intro hk
    have h1 := ih (by omega)
    have h2 := hf.1 (k + 1) hk
    have h3 := hf.2 k (by omega)
    simp only [fwdL, fwdH, idw]
    cases hh : h k with
    | true => simp only [if_true]; omega
    | false => have h4 := h3.2 hh; simp only [Bool.false_eq_true, if_false]; omega
theorem flies_in {f : Nat → Int} (hf : Flies A B q s h n f) : ∀ k, k ≤ n → spanL idw A q s h n k ≤ f k ∧ f k ≤ spanH idw B q s h n k := by
  have back : ∀ d, d ≤ n → spanL idw A q s h n (n - d) ≤ f (n - d) ∧ f (n - d) ≤ spanH idw B q s h n (n - d) := by
    intro d
    induction d with
    | zero => intro hd; rw [Nat.sub_zero, spanL_last, spanH_last]; exact flies_fwd hf n (Nat.le_refl _)
    | succ d ih =>
      intro hd
      have h1 := ih (by omega)
      obtain ⟨k, hk⟩ : ∃ k, k = n - (d + 1) := ⟨_, rfl⟩
      rw [show n - d = k + 1 by omega] at h1
      rw [← hk, spanL_step idw A q s h n k (by omega), spanH_step idw B q s h n k (by omega)]
      have h2 := flies_fwd hf k (by omega)
      have h3 := hf.2 k (by omega)
      simp only [idw]
      cases hh : h k with
      | true => simp only [if_true]; omega
      | false => have h4 := h3.2 hh; simp only [Bool.false_eq_true, if_false]; omega
  intro k hk
  have := back (n - k) (by omega)
  rwa [show n - (n - k) = k by omega] at this
theorem flies_ok {f : Nat → Int} (hf : Flies A B q s h n f) : spansOk idw A B q s h n = true :=
  (spansOk_iff idw A B q s h n).2 fun k hk => by have := flies_in hf k hk; omega
theorem low_diffs (hqs : q ≤ s) : Diffs q s h n (spanL idw A q s h n) := by
  intro k hk
  have h1 := spanL_step idw A q s h n k hk
  have h2 := spanL_ge idw A q s h n (k + 1) (by omega)
  have h3 : fwdL idw A q k + q ≤ fwdL idw A q (k + 1) := by simp only [fwdL, idw]; omega
  simp only [idw] at h1
  cases hh : h k with
  | true => rw [hh] at h1; simp only [if_true] at h1; exact ⟨by omega, fun e => by cases e⟩
  | false => rw [hh] at h1; simp only [Bool.false_eq_true, if_false] at h1; exact ⟨by omega, fun _ => by omega⟩
theorem high_diffs (hqs : q ≤ s) : Diffs q s h n (spanH idw B q s h n) := by
  intro k hk
  have h1 := spanH_step idw B q s h n k hk
  have h2 := spanH_le idw B q s h n (k + 1) (by omega)
  simp only [idw] at h1
  refine ⟨by omega, fun hh => ?_⟩
  have h3 : fwdH idw B s h (k + 1) ≤ fwdH idw B s h k + s := by simp only [fwdH, idw, hh, Bool.false_eq_true, if_false]; omega
  omega
theorem low_flies (hqs : q ≤ s) (ok : spansOk idw A B q s h n = true) : Flies A B q s h n (spanL idw A q s h n) := by
  refine ⟨fun k hk => ?_, low_diffs hqs⟩
  have h1 := (spansOk_iff idw A B q s h n).1 ok k hk
  have h2 := fwdL_ge idw A q k
  have h3 := fwdH_le idw B s h k
  have h4 := spanL_ge idw A q s h n k hk
  have h5 := spanH_le idw B q s h n k hk
  omega
theorem clamp_flies (hqs : q ≤ s) (ok : spansOk idw A B q s h n = true) {g : Nat → Int} (hg : Diffs q s h n g) : Flies A B q s h n (fun k => min (spanH idw B q s h n k) (max (spanL idw A q s h n k) (g k))) := by
  refine ⟨fun k hk => ?_, fun k hk => ?_⟩
  · have h1 := (spansOk_iff idw A B q s h n).1 ok k hk
    have h2 := fwdL_ge idw A q k
    have h3 := fwdH_le idw B s h k
    have h4 := spanL_ge idw A q s h n k hk
    have h5 := spanH_le idw B q s h n k hk
    show A k ≤ min _ _ ∧ min _ _ ≤ B k
    omega
  · have h1 := low_diffs (A := A) (h := h) (n := n) hqs k hk
    have h2 := high_diffs (B := B) (h := h) (n := n) hqs k hk
    have h3 := hg k hk
    refine ⟨by show min _ _ + q ≤ min _ _; omega, fun hh => ?_⟩
    have h4 := h1.2 hh
    have h5 := h2.2 hh
    have h6 := h3.2 hh
    show min _ _ ≤ min _ _ + s
    omega
theorem line_diffs (hqs : q ≤ s) (t : Int) (k0 : Int) : Diffs q s h n (fun k => t + ((k : Int) - k0) * q) := by
  intro k hk
  have e : (((k + 1 : Nat) : Int) - k0) * q = ((k : Int) - k0) * q + q := by
    rw [show (((k + 1 : Nat) : Int) - k0) = ((k : Int) - k0) + 1 by omega, Int.add_mul, Int.one_mul]
  refine ⟨?_, fun _ => ?_⟩
  · show t + ((k : Int) - k0) * q + q ≤ t + (((k + 1 : Nat) : Int) - k0) * q
    omega
  · show t + (((k + 1 : Nat) : Int) - k0) * q ≤ t + ((k : Int) - k0) * q + s
    omega
/-- Each tick of a span is that of some flight. -/
theorem through (hqs : q ≤ s) (ok : spansOk idw A B q s h n = true) (k : Nat) (t : Int) (h1 : spanL idw A q s h n k ≤ t) (h2 : t ≤ spanH idw B q s h n k) : ∃ f, Flies A B q s h n f ∧ f k = t := by
  refine ⟨_, clamp_flies hqs ok (line_diffs hqs t (k : Int)), ?_⟩
  show min _ (max _ (t + ((k : Int) - (k : Int)) * q)) = t
  rw [Int.sub_self, Int.zero_mul]
  omega
/-- At each tick of a box some flight is in it. -/
theorem inside (hqs : q ≤ s) (hq : 1 ≤ q) (ok : spansOk idw A B q s h n = true) (k : Nat) (t : Int) (h1 : spanL idw A q s h n k ≤ t) (h2 : t < spanH idw B q s h n (k + 1)) : ∃ f, Flies A B q s h n f ∧ f k ≤ t ∧ t < f (k + 1) := by
  refine ⟨_, clamp_flies hqs ok (line_diffs hqs t (k : Int)), ?_, ?_⟩
  · show min _ (max _ (t + ((k : Int) - (k : Int)) * q)) ≤ t
    rw [Int.sub_self, Int.zero_mul]
    omega
  · show t < min _ (max _ (t + (((k + 1 : Nat) : Int) - (k : Int)) * q))
    rw [show (((k + 1 : Nat) : Int) - (k : Int)) = 1 by omega, Int.one_mul]
    omega
theorem Flies.widen {A' B' : Nat → Int} {f : Nat → Int} (hf : Flies A' B' q s h n f) (hA : ∀ k, k ≤ n → A k ≤ A' k) (hB : ∀ k, k ≤ n → B' k ≤ B k) : Flies A B q s h n f :=
  ⟨fun k hk => by have := hf.1 k hk; have := hA k hk; have := hB k hk; omega, hf.2⟩
theorem Flies.mono {f : Nat → Int} (hf : Flies A B q s h n f) (hq : 1 ≤ q) : ∀ d i : Nat, i + d ≤ n → f i + (d : Int) ≤ f (i + d)
  | 0, i, _ => by simp
  | d + 1, i, hd => by
    have h1 := Flies.mono hf hq d i (by omega)
    have h2 := (hf.2 (i + d) (by omega)).1
    rw [show i + (d + 1) = i + d + 1 by omega]
    omega
end
/-! #### a path held at one of its windows -/
def upd (x : S52) (a c : Int) : S52 := ⟨x.f0, x.f1, x.f2, x.f3, max x.f4 a, min x.f5 c, x.f6⟩
def heldRow (l : List S52) (k : Nat) (a c : Int) : List S52 := if k < l.length then l.set k (upd (rd_T52 l (k : Int)) a c) else l
def heldF1 (l : List S52) (f : Int) (k : Nat) (a : Int) : Int := if k < l.length then f else max f a
def heldB1 (l : List S52) (b : Int) (k : Nat) (c : Int) : Int := if k < l.length then b else min b c
theorem heldRow_length (l : List S52) (k : Nat) (a c : Int) : (heldRow l k a c).length = l.length := by
  unfold heldRow
  split
  · exact List.length_set
  · rfl
theorem rd_nthS2 (x : List S52) (i : Nat) (h : i < x.length) : rd_T52 x (i : Int) = x[i] := by
  show x.getD ((i : Int)).toNat _ = x[i]
  rw [Int.toNat_natCast, List.getD_eq_getElem?_getD, List.getElem?_eq_getElem h]; rfl
theorem rd_set2 (x : List S52) (i : Nat) (h : i < x.length) (v : S52) : rd_T52 (x.set i v) (i : Int) = v := by
  show (x.set i v).getD ((i : Int)).toNat _ = v
  rw [Int.toNat_natCast, List.getD_eq_getElem?_getD, List.getElem?_set_self h]; rfl
theorem set_rd (l : List S52) (k : Nat) (h : k < l.length) (v : S52) (e : v = rd_T52 l (k : Int)) : l.set k v = l := by
  rw [e, rd_nthS2 l k h]
  exact List.set_getElem_self h
theorem heldRow_rd (l : List S52) (k j : Nat) (a c : Int) (hj : j < l.length) : rd_T52 (heldRow l k a c) (j : Int) = if j = k then upd (rd_T52 l (j : Int)) a c else rd_T52 l (j : Int) := by
  unfold heldRow
  by_cases h : k < l.length
  · rw [if_pos h]
    by_cases e : j = k
    · subst e
      rw [rd_set2 _ _ h, if_pos rfl]
    · rw [if_neg e, rd_nthS2 _ j (by rw [List.length_set]; exact hj), rd_nthS2 _ j hj, List.getElem_set_ne (fun h => e h.symm)]
  · rw [if_neg h, if_neg (by omega)]
theorem held_ev (q s : Int) (l : List S52) (f b : Int) (k : Nat) (a c : Int) (hl : l.length ≤ 1048576) : laws_wfHeld.f q s l f b (k : Int) a c = some (q, s, heldRow l k a c, heldF1 l f k a, heldB1 l b k c) := by
  unfold laws_wfHeld.f heldRow heldF1 heldB1
  simp only [Option.bind_some, List.nil_append]
  rw [if_pos (show ([] : List S52).length + l.length < 2513169434916 by simp only [List.length_nil]; omega)]
  by_cases h : k < l.length
  · rw [if_pos (show (k : Int) < (l.length : Int) by omega), if_pos (show (0 : Int) ≤ (k : Int) by omega), if_pos h, if_pos h, if_pos h, Int.toNat_natCast]
    unfold upd
    by_cases h1 : a > (rd_T52 l (k : Int)).f4
    · rw [if_pos h1]
      simp only [Option.bind_some, rd_set2 _ k h, List.set_set]
      by_cases h2 : c < (rd_T52 l (k : Int)).f5
      · rw [if_pos h2, show max (rd_T52 l (k : Int)).f4 a = a by omega, show min (rd_T52 l (k : Int)).f5 c = c by omega]
      · rw [if_neg h2, show max (rd_T52 l (k : Int)).f4 a = a by omega, show min (rd_T52 l (k : Int)).f5 c = (rd_T52 l (k : Int)).f5 by omega]
    · rw [if_neg h1]
      by_cases h2 : c < (rd_T52 l (k : Int)).f5
      · rw [if_pos h2, show max (rd_T52 l (k : Int)).f4 a = (rd_T52 l (k : Int)).f4 by omega, show min (rd_T52 l (k : Int)).f5 c = c by omega]
      · rw [if_neg h2, show max (rd_T52 l (k : Int)).f4 a = (rd_T52 l (k : Int)).f4 by omega, show min (rd_T52 l (k : Int)).f5 c = (rd_T52 l (k : Int)).f5 by omega, set_rd l k h _ rfl]
  · rw [if_neg (show ¬ (k : Int) < (l.length : Int) by omega), if_neg h, if_neg h, if_neg h]
    by_cases h1 : a > f
    · rw [if_pos h1, show max f a = a by omega]
      by_cases h2 : c < b
      · rw [if_pos h2, show min b c = c by omega]
      · rw [if_neg h2, show min b c = b by omega]
    · rw [if_neg h1, show max f a = f by omega]
      by_cases h2 : c < b
      · rw [if_pos h2, show min b c = c by omega]
      · rw [if_neg h2, show min b c = b by omega]
theorem held1_lo (l : List S52) (f : Int) (k j : Nat) (a c : Int) (hk : k ≤ l.length) (hj : j ≤ l.length) : loAt (heldRow l k a c) (heldF1 l f k a) (j : Int) = if j = k then max (loAt l f (j : Int)) a else loAt l f (j : Int) := by
  unfold loAt heldF1
  rw [heldRow_length]
  by_cases h : j < l.length
  · rw [if_pos (show (j : Int) < (l.length : Int) by omega), if_pos (show (j : Int) < (l.length : Int) by omega), heldRow_rd l k j a c h]
    by_cases e : j = k
    · rw [if_pos e, if_pos e]; rfl
    · rw [if_neg e, if_neg e]
  · rw [if_neg (show ¬ (j : Int) < (l.length : Int) by omega), if_neg (show ¬ (j : Int) < (l.length : Int) by omega)]
    by_cases e : j = k
    · rw [if_pos e, if_neg (by omega)]
    · rw [if_neg e, if_pos (by omega)]
theorem held1_hi (l : List S52) (b : Int) (k j : Nat) (a c : Int) (hk : k ≤ l.length) (hj : j ≤ l.length) : hiAt (heldRow l k a c) (heldB1 l b k c) (j : Int) = if j = k then min (hiAt l b (j : Int)) c else hiAt l b (j : Int) := by
  unfold hiAt heldB1
  rw [heldRow_length]
  by_cases h : j < l.length
  · rw [if_pos (show (j : Int) < (l.length : Int) by omega), if_pos (show (j : Int) < (l.length : Int) by omega), heldRow_rd l k j a c h]
    by_cases e : j = k
    · rw [if_pos e, if_pos e]; rfl
    · rw [if_neg e, if_neg e]
  · rw [if_neg (show ¬ (j : Int) < (l.length : Int) by omega), if_neg (show ¬ (j : Int) < (l.length : Int) by omega)]
    by_cases e : j = k
    · rw [if_pos e, if_neg (by omega)]
    · rw [if_neg e, if_pos (by omega)]
theorem held1_hold (l : List S52) (k j : Nat) (a c : Int) (hj : j < l.length) : holdAt (heldRow l k a c) j = holdAt l j := by
  unfold holdAt
  rw [heldRow_rd l k j a c hj]
  split <;> rfl
abbrev Fl (q s : Int) (l : List S52) (f b : Int) (g : Nat → Int) : Prop := Flies (fun k => loAt l f (k : Int)) (fun k => hiAt l b (k : Int)) q s (holdAt l) l.length g
theorem pathOk_all {q s : Int} {l : List S52} {f b : Int} (h : pathOk q s l f b = true) : ∀ j : Nat, j < l.length → placeOk l j = true := by
  unfold pathOk at h
  rw [Bool.and_eq_true, Bool.and_eq_true, Bool.and_eq_true] at h
  exact fun j hj => (allN_iff _ _).1 h.2.2.2 j (by omega) (by omega)
theorem held_path {q s : Int} {l : List S52} {f b : Int} (h : pathOk q s l f b = true) {g : Nat → Int} (hg : Fl q s l f b g) (k : Nat) (hk : k ≤ l.length) (a c : Int) (h1 : a ≤ g k) (h2 : g k ≤ c) :
    pathOk q s (heldRow l k a c) (heldF1 l f k a) (heldB1 l b k c) = true ∧ Fl q s (heldRow l k a c) (heldF1 l f k a) (heldB1 l b k c) g := by
  have hf := pathOk_facts h
  have hw := hg.1 k hk
  have hr := loAt_range h k
  refine ⟨?_, ?_⟩
  · unfold pathOk kindOk winOk
    rw [heldRow_length, decide_eq_true hf.1, decide_eq_true hf.2.1, Bool.true_and, Bool.true_and, Bool.and_eq_true, allN_iff]
    refine ⟨decide_eq_true ?_, fun j _ hj => ?_⟩
    · unfold heldF1 heldB1
      by_cases e : k < l.length
      · rw [if_pos e, if_pos e]; exact hf.2.2.1
      · rw [if_neg e, if_neg e]
        unfold loAt hiAt at hw
        simp only [if_neg (show ¬ (k : Int) < (l.length : Int) by omega)] at hw
        omega
    · have hj' : j < l.length := by omega
      have hp := pathOk_all h j hj'
      unfold placeOk at hp ⊢
      rw [Bool.and_eq_true] at hp ⊢
      have same : ∀ i : Nat, i < l.length → (rd_T52 (heldRow l k a c) (i : Int)).f0 = (rd_T52 l (i : Int)).f0 ∧ (rd_T52 (heldRow l k a c) (i : Int)).f1 = (rd_T52 l (i : Int)).f1 ∧ (rd_T52 (heldRow l k a c) (i : Int)).f2 = (rd_T52 l (i : Int)).f2 ∧ (rd_T52 (heldRow l k a c) (i : Int)).f3 = (rd_T52 l (i : Int)).f3 := by
        intro i hi
        rw [heldRow_rd l k i a c hi]
        split <;> exact ⟨rfl, rfl, rfl, rfl⟩
      refine ⟨?_, ?_⟩
      · rw [heldRow_rd l k j a c hj']
        by_cases e : j = k
        · rw [if_pos e]
          have hs := (stepOk_iff _).1 hp.1
          rw [← e] at hw h1 h2
          unfold loAt hiAt at hw
          simp only [if_pos (show (j : Int) < (l.length : Int) by omega)] at hw
          rw [stepOk_iff]
          unfold upd
          simp only
          omega
        · rw [if_neg e]; exact hp.1
      · rcases Nat.eq_zero_or_pos j with e | e
        · rw [decide_eq_true e]; rfl
        · have h3 := hp.2
          rw [decide_eq_false (by omega), Bool.false_or] at h3 ⊢
          rw [show (j : Int) - 1 = ((j - 1 : Nat) : Int) by omega] at h3 ⊢
          have s1 := same (j - 1) (by omega)
          have s2 := same j hj'
          rw [nextOk_iff] at h3 ⊢
          rw [s1.1, s1.2.1, s1.2.2.1, s1.2.2.2, s2.1, s2.2.1, s2.2.2.1, s2.2.2.2]
          exact h3
  · unfold Fl
    rw [heldRow_length]
    refine ⟨fun j hj => ?_, fun j hj => ?_⟩
    · have hw := hg.1 j hj
      show loAt (heldRow l k a c) (heldF1 l f k a) (j : Int) ≤ g j ∧ g j ≤ hiAt (heldRow l k a c) (heldB1 l b k c) (j : Int)
      rw [held1_lo l f k j a c hk hj, held1_hi l b k j a c hk hj]
      replace hw : loAt l f (j : Int) ≤ g j ∧ g j ≤ hiAt l b (j : Int) := hw
      by_cases e : j = k
      · rw [if_pos e, if_pos e]
        rw [← e] at h1 h2
        omega
      · rw [if_neg e, if_neg e]; exact hw
    · rw [held1_hold l k j a c hj]
      exact hg.2 j hj
theorem spansOf_ok {q s : Int} {l : List S52} {f b : Int} (h : pathOk q s l f b = true) {g : Nat → Int} (hg : Fl q s l f b g) :
    spansOf q s l f b = (tab (l.length + 1) (fun k => (⟨spanL idw (fun k => loAt l f (k : Int)) q s (holdAt l) l.length k, spanH idw (fun k => hiAt l b (k : Int)) q s (holdAt l) l.length k⟩ : S37)), true) := by
  unfold spansOf spansR
  rw [if_pos h, if_pos (flies_ok hg)]
/-! #### a flight that a path allows -/
theorem rd_tabI (n : Nat) (g : Nat → Int) (i : Nat) (hi : i < n) : rd (tab n g) (i : Int) = g i := by
  show (tab n g).getD ((i : Int)).toNat 0 = g i
  rw [Int.toNat_natCast, List.getD_eq_getElem?_getD, tab_get n g i hi]; rfl
theorem allowed_ev {q s : Int} {l : List S52} {f b : Int} (h : pathOk q s l f b = true) {g : Nat → Int} (hg : Fl q s l f b g) : Ev (fun k => laws_wfAllowed.f k q s l f b (tab (l.length + 1) g)) true := by
  have hf := pathOk_facts h
  have hr : ∀ k : Nat, k ≤ l.length → 0 ≤ g k ∧ g k ≤ 10000 := fun k hk => by have h1 := loAt_range h k; have h2 := hg.1 k hk; simp only at h2; omega
  unfold laws_wfAllowed.f
  rw [tab_length, w64 (show -9223372036854775808 ≤ (l.length : Int) + 1 by omega) (by omega)]
  refine Ev.ite_pos (by omega) ?_
  have loop : ∀ d i : Nat, i + d = l.length → Ev (fun k => laws_wfAllowed.l0 k (tab (l.length + 1) g) (l.length : Int) (i : Int) q s l f b) true := by
    intro d
    induction d with
    | zero =>
      intro i hi
      have e : i = l.length := by omega
      have hw := hg.1 l.length (Nat.le_refl _)
      unfold loAt hiAt at hw
      simp only [if_neg (Int.lt_irrefl (l.length : Int))] at hw
      refine Ev.succ ?_
      simp only [laws_wfAllowed.l0, tab_length]
      rw [rd_tabI _ g l.length (by omega)]
      refine Ev.ite_neg (by omega) (Ev.ite_pos (by omega) (Ev.ite_pos (by omega) (Ev.ite_pos (by omega) (Ev.cast (Ev.val _) (decide_eq_true (by omega))))))
    | succ d ih =>
      intro i hi
      have hn := ih (i + 1) (by omega)
      rw [show (((i + 1 : Nat)) : Int) = (i : Int) + 1 by omega] at hn
      have hw := hg.1 i (by omega)
      unfold loAt hiAt at hw
      simp only [if_pos (show (i : Int) < (l.length : Int) by omega)] at hw
      have hd := hg.2 i (by omega)
      have r1 := hr i (by omega)
      have r2 := hr (i + 1) (by omega)
      refine Ev.succ ?_
      simp only [laws_wfAllowed.l0, tab_length]
      rw [w64 (show -9223372036854775808 ≤ (i : Int) + 1 by omega) (by omega), rd_tabI _ g i (by omega), show (i : Int) + 1 = ((i + 1 : Nat) : Int) by omega, rd_tabI _ g (i + 1) (by omega), w64 (show -9223372036854775808 ≤ g (i + 1) - g i by omega) (by omega)]
      rw [show (((i + 1 : Nat)) : Int) = (i : Int) + 1 by omega]
      refine Ev.ite_pos (by omega) (Ev.ite_pos (by omega) (Ev.ite_pos (by omega) (Ev.ite_pos (by omega) (Ev.ite_neg (by omega) (Ev.ite_neg (by omega) (Ev.ite_pos (by omega) (Ev.ite_pos (by omega) (Ev.ite_neg (by omega) ?_))))))))
      by_cases c : (rd_T52 l (i : Int)).f6 = true
      · exact Ev.ite_pos c hn
      · have := hd.2 (by unfold holdAt; exact Bool.eq_false_iff.2 c)
        exact Ev.ite_neg c (Ev.ite_neg (by omega) hn)
  exact loop l.length 0 (by omega)
theorem draw_ev (l0 : List Int) (hl0 : Bytes l0) : ∃ q s st f b, st.length ≤ 41 ∧ Ev (fun k => spec_DrawFlySpans.f k l0) (q, s, st, f, b) := by
  unfold spec_DrawFlySpans.f
  obtain ⟨l, hl, hlen, ho⟩ := open_ev l0 hl0
  rw [ho]
  simp only [Option.bind_some]
  obtain ⟨q, s, st, f, b, p, g1, g2, g3, h⟩ := any_ev l hl hlen
  exact ⟨q, s, st, f, b, g1, Ev.bind h (Ev.val _)⟩
theorem wfTube_ev (x : List S40) (hx : x.length ≤ 1048576) : Ev (fun k => laws_wfTube.f k x x) true := by
  unfold laws_wfTube.f
  refine Ev.ite_pos rfl ?_
  have loop : ∀ d i : Nat, i + d = x.length → Ev (fun k => laws_wfTube.l0 k x x (i : Int)) true := by
    intro d
    induction d with
    | zero =>
      intro i hi
      refine Ev.succ ?_
      simp only [laws_wfTube.l0]
      exact Ev.ite_neg (by omega) (Ev.val _)
    | succ d ih =>
      intro i hi
      have := ih (i + 1) (by omega)
      rw [show (((i + 1 : Nat)) : Int) = (i : Int) + 1 by omega] at this
      refine Ev.succ ?_
      simp only [laws_wfTube.l0, beq_self_eq_true, Bool.not_true, Bool.or_false]
      rw [w64 (by omega) (by omega)]
      exact Ev.ite_pos (by omega) (Ev.ite_pos (by omega) (Ev.ite_pos (by omega) (Ev.ite_neg (by decide) this)))
  exact loop x.length 0 (by omega)
theorem where_ev (n : Nat) (hn : n ≤ 1048576) (g : Nat → Int) (t : Int) (k : Nat) (hk : k < n) (h1 : g k ≤ t) (h2 : t < g (k + 1)) (hb : ∀ j, j < k → g (j + 1) ≤ t) : Ev (fun m => impl_FlyWhere.f m (tab (n + 1) g) t) ((k : Int), true) := by
  have loop : ∀ d i : Nat, i + d = k → Ev (fun m => impl_FlyWhere.l0 m (tab (n + 1) g) t (i : Int)) ((k : Int), true) := by
    intro d
    induction d with
    | zero =>
      intro i hi
      have e : i = k := by omega
      refine Ev.succ ?_
      simp only [impl_FlyWhere.l0, tab_length]
      rw [e, w64 (show -9223372036854775808 ≤ (k : Int) + 1 by omega) (by omega), rd_tabI _ g k (by omega), show (k : Int) + 1 = ((k + 1 : Nat) : Int) by omega, rd_tabI _ g (k + 1) (by omega)]
      exact Ev.ite_pos (by omega) (Ev.ite_pos (by omega) (Ev.ite_pos (by omega) (Ev.ite_pos h1 (Ev.ite_pos (by omega) (Ev.ite_pos h2 (Ev.val _))))))
    | succ d ih =>
      intro i hi
      have := ih (i + 1) (by omega)
      have hbi := hb i (by omega)
      refine Ev.succ ?_
      simp only [impl_FlyWhere.l0, tab_length]
      rw [w64 (show -9223372036854775808 ≤ (i : Int) + 1 by omega) (by omega), rd_tabI _ g i (by omega), show (i : Int) + 1 = ((i + 1 : Nat) : Int) by omega, rd_tabI _ g (i + 1) (by omega)]
      refine Ev.ite_pos (by omega) (Ev.ite_pos (by omega) (Ev.ite_pos (by omega) ?_))
      by_cases c : g i ≤ t
      · exact Ev.ite_pos c (Ev.ite_pos (by omega) (Ev.ite_neg (by omega) this))
      · exact Ev.ite_neg c this
  unfold impl_FlyWhere.f
  exact loop k 0 (by omega)
section
variable {q s : Int} {l : List S52} {f b : Int} (h : pathOk q s l f b = true) (ok : spansOk idw (fun k => loAt l f (k : Int)) (fun k => hiAt l b (k : Int)) q s (holdAt l) l.length = true)
abbrev lowOf (q s : Int) (l : List S52) (f : Int) (k : Nat) : Int := spanL idw (fun k => loAt l f (k : Int)) q s (holdAt l) l.length k
abbrev highOf (q s : Int) (l : List S52) (b : Int) (k : Nat) : Int := spanH idw (fun k => hiAt l b (k : Int)) q s (holdAt l) l.length k
abbrev rowOf (q s : Int) (l : List S52) (f b : Int) : List S37 := tab (l.length + 1) (fun k => (⟨lowOf q s l f k, highOf q s l b k⟩ : S37))
include h ok
theorem span_range (k : Nat) (hk : k ≤ l.length) : 0 ≤ lowOf q s l f k ∧ lowOf q s l f k ≤ highOf q s l b k ∧ highOf q s l b k ≤ 10000 := by
  have h1 := (spansOk_iff _ _ _ _ _ _ _).1 ok k hk
  have h2 := fwdL_ge idw (fun k => loAt l f (k : Int)) q k
  have h3 := fwdH_le idw (fun k => hiAt l b (k : Int)) s (holdAt l) k
  have h4 := spanL_ge idw (fun k => loAt l f (k : Int)) q s (holdAt l) l.length k hk
  have h5 := spanH_le idw (fun k => hiAt l b (k : Int)) q s (holdAt l) l.length k hk
  have h6 := loAt_range h k
  replace h2 : loAt l f (k : Int) ≤ fwdL idw (fun k => loAt l f (k : Int)) q k := h2
  replace h3 : fwdH idw (fun k => hiAt l b (k : Int)) s (holdAt l) k ≤ hiAt l b (k : Int) := h3
  unfold lowOf highOf
  omega
theorem boxes_ev : ∀ (d k : Nat), k + d = l.length → Ev (fun m => laws_FnFlyTight.l2 m (tubeRow l (rowOf q s l f b) l.length) (k : Int) q s l f b) true := by
  have hf := pathOk_facts h
  intro d
  induction d with
  | zero =>
    intro k hk
    refine Ev.succ ?_
    simp only [laws_FnFlyTight.l2]
    exact Ev.ite_neg (by unfold tubeRow; rw [tab_length]; omega) (Ev.val _)
  | succ d ih =>
    intro k hk
    have hn := ih (k + 1) (by omega)
    rw [show (((k + 1 : Nat)) : Int) = (k : Int) + 1 by omega] at hn
    have r1 := span_range h ok k (by omega)
    have r2 := span_range h ok (k + 1) (by omega)
    have eb : rd_T40 (tubeRow l (rowOf q s l f b) l.length) (k : Int) = ⟨(rd_T52 l (k : Int)).f0, (rd_T52 l (k : Int)).f1, (rd_T52 l (k : Int)).f2, (rd_T52 l (k : Int)).f3, lowOf q s l f k, highOf q s l b (k + 1) - 1⟩ := by
      unfold tubeRow
      show (tab _ _).getD ((k : Int)).toNat _ = _
      rw [Int.toNat_natCast, List.getD_eq_getElem?_getD, tab_get _ _ k (by omega)]
      simp only [Option.getD_some]
      rw [tab_rd (l.length + 1) _ k (by omega), tab_rd (l.length + 1) _ (k + 1) (by omega)]
      simp only
      rw [w64 (by omega) (by omega)]
    have inner : ∀ (m : Nat) (t : Int), highOf q s l b (k + 1) - t < (m : Int) → lowOf q s l f k ≤ t → t ≤ 30000 →
        Ev (fun n => laws_FnFlyTight.l3 n (tubeRow l (rowOf q s l f b) l.length) (k : Int) t q s l f b (rd_T52 l (k : Int)).f0 (rd_T52 l (k : Int)).f1 (rd_T52 l (k : Int)).f2 (rd_T52 l (k : Int)).f3 (lowOf q s l f k) (highOf q s l b (k + 1) - 1)) true := by
      have stop : ∀ t : Int, ¬ t ≤ highOf q s l b (k + 1) - 1 → Ev (fun n => laws_FnFlyTight.l3 n (tubeRow l (rowOf q s l f b) l.length) (k : Int) t q s l f b (rd_T52 l (k : Int)).f0 (rd_T52 l (k : Int)).f1 (rd_T52 l (k : Int)).f2 (rd_T52 l (k : Int)).f3 (lowOf q s l f k) (highOf q s l b (k + 1) - 1)) true := by
        intro t ht
        refine Ev.succ ?_
        simp only [laws_FnFlyTight.l3]
        rw [w64 (show -9223372036854775808 ≤ (k : Int) + 1 by omega) (by omega)]
        exact Ev.ite_neg ht hn
      intro m
      induction m with
      | zero => intro t hm h1 h2; exact stop t (by omega)
      | succ m ihm =>
        intro t hm h1 h2
        by_cases ht : t ≤ highOf q s l b (k + 1) - 1
        · obtain ⟨g, hg, g1, g2⟩ := inside hf.1.2.1 hf.1.1 ok k t h1 (show t < highOf q s l b (k + 1) by omega)
          have hgk := hg.1 k (by omega)
          have hgk1 := hg.1 (k + 1) (by omega)
          have rk := loAt_range h k
          have rk1 := loAt_range h (k + 1)
          simp only at hgk hgk1
          obtain ⟨p1, f1⟩ := held_path h hg k (by omega) 0 t (by omega) (by omega)
          obtain ⟨p2, f2⟩ := held_path p1 f1 (k + 1) (by rw [heldRow_length]; omega) (t + 1) 10000 (by omega) (by omega)
          have e1 := held_ev q s l f b k 0 t (by omega)
          have e2 := held_ev q s (heldRow l k 0 t) (heldF1 l f k 0) (heldB1 l b k t) (k + 1) (t + 1) 10000 (by rw [heldRow_length]; omega)
          rw [show (((k + 1 : Nat)) : Int) = (k : Int) + 1 by omega] at e2
          have ef := First.impl_all q s (heldRow (heldRow l k 0 t) (k + 1) (t + 1) 10000) (heldF1 (heldRow l k 0 t) (heldF1 l f k 0) (k + 1) (t + 1)) (heldB1 (heldRow l k 0 t) (heldB1 l b k t) (k + 1) 10000)
          have low := low_flies hf.1.2.1 (flies_ok f2)
          obtain ⟨G, hG⟩ : ∃ G, G = spanL idw (fun j => loAt (heldRow (heldRow l k 0 t) (k + 1) (t + 1) 10000) (heldF1 (heldRow l k 0 t) (heldF1 l f k 0) (k + 1) (t + 1)) (j : Int)) q s (holdAt (heldRow (heldRow l k 0 t) (k + 1) (t + 1) 10000)) (heldRow (heldRow l k 0 t) (k + 1) (t + 1) 10000).length := ⟨_, rfl⟩
          rw [← hG] at low
          have el : (heldRow (heldRow l k 0 t) (k + 1) (t + 1) 10000).length = l.length := by rw [heldRow_length, heldRow_length]
          have eF : First.listOf q s (heldRow (heldRow l k 0 t) (k + 1) (t + 1) 10000) (heldF1 (heldRow l k 0 t) (heldF1 l f k 0) (k + 1) (t + 1)) (heldB1 (heldRow l k 0 t) (heldB1 l b k t) (k + 1) 10000) = tab (l.length + 1) G := by
            unfold First.listOf
            rw [spansOf_ok p2 f2, hG, ← el]
            unfold tab
            rw [List.map_map]
            rfl
          rw [eF] at ef
          -- the lowest flight of the held path is one of the path's own
          have own : Fl q s l f b G := by
            rw [el] at low
            refine ⟨fun j hj => ?_, fun j hj => ?_⟩
            · have hw : loAt (heldRow (heldRow l k 0 t) (k + 1) (t + 1) 10000) (heldF1 (heldRow l k 0 t) (heldF1 l f k 0) (k + 1) (t + 1)) (j : Int) ≤ G j ∧ G j ≤ hiAt (heldRow (heldRow l k 0 t) (k + 1) (t + 1) 10000) (heldB1 (heldRow l k 0 t) (heldB1 l b k t) (k + 1) 10000) (j : Int) := low.1 j hj
              rw [held1_lo _ _ (k + 1) j _ _ (by rw [heldRow_length]; omega) (by rw [heldRow_length]; exact hj), held1_hi _ _ (k + 1) j _ _ (by rw [heldRow_length]; omega) (by rw [heldRow_length]; exact hj), held1_lo _ _ k j _ _ (by omega) hj, held1_hi _ _ k j _ _ (by omega) hj] at hw
              show loAt l f (j : Int) ≤ G j ∧ G j ≤ hiAt l b (j : Int)
              by_cases c1 : j = k + 1 <;> by_cases c2 : j = k <;> simp only [c1, c2, if_true, if_false] at hw ⊢ <;> omega
            · have hd := low.2 j hj
              rw [held1_hold _ _ j _ _ (by rw [heldRow_length]; exact hj), held1_hold _ _ j _ _ hj] at hd
              exact hd
          have gk : G k ≤ t ∧ t < G (k + 1) := by
            rw [el] at low
            have w1 : loAt (heldRow (heldRow l k 0 t) (k + 1) (t + 1) 10000) (heldF1 (heldRow l k 0 t) (heldF1 l f k 0) (k + 1) (t + 1)) (k : Int) ≤ G k ∧ G k ≤ hiAt (heldRow (heldRow l k 0 t) (k + 1) (t + 1) 10000) (heldB1 (heldRow l k 0 t) (heldB1 l b k t) (k + 1) 10000) (k : Int) := low.1 k (by omega)
            have w2 : loAt (heldRow (heldRow l k 0 t) (k + 1) (t + 1) 10000) (heldF1 (heldRow l k 0 t) (heldF1 l f k 0) (k + 1) (t + 1)) ((k + 1 : Nat) : Int) ≤ G (k + 1) ∧ G (k + 1) ≤ hiAt (heldRow (heldRow l k 0 t) (k + 1) (t + 1) 10000) (heldB1 (heldRow l k 0 t) (heldB1 l b k t) (k + 1) 10000) ((k + 1 : Nat) : Int) := low.1 (k + 1) (by omega)
            rw [held1_lo _ _ (k + 1) k _ _ (by rw [heldRow_length]; omega) (by rw [heldRow_length]; omega), held1_hi _ _ (k + 1) k _ _ (by rw [heldRow_length]; omega) (by rw [heldRow_length]; omega), held1_lo _ _ k k _ _ (by omega) (by omega), held1_hi _ _ k k _ _ (by omega) (by omega)] at w1
            rw [held1_lo _ _ (k + 1) (k + 1) _ _ (by rw [heldRow_length]; omega) (by rw [heldRow_length]; omega), held1_hi _ _ (k + 1) (k + 1) _ _ (by rw [heldRow_length]; omega) (by rw [heldRow_length]; omega), held1_lo _ _ k (k + 1) _ _ (by omega) (by omega), held1_hi _ _ k (k + 1) _ _ (by omega) (by omega)] at w2
            simp only [if_true, if_neg (show ¬ k = k + 1 by omega), if_neg (show ¬ k + 1 = k by omega)] at w1 w2
            omega
          have mono : ∀ j, j < k → G (j + 1) ≤ t := by
            intro j hj
            have := Flies.mono own hf.1.1 (k - (j + 1)) (j + 1) (by omega)
            rw [show j + 1 + (k - (j + 1)) = k by omega] at this
            omega
          have ew := where_ev l.length (by omega) G t k (by omega) gk.1 gk.2 mono
          have ea := allowed_ev h own
          have et : wrap64 (wrap64 (t + 1) + wrap64 (Int.tdiv (wrap64 (highOf q s l b (k + 1) - 1 - lowOf q s l f k)) 9)) = t + 1 + Int.tdiv (highOf q s l b (k + 1) - 1 - lowOf q s l f k) 9 := by
            have td := tdiv_range (highOf q s l b (k + 1) - 1 - lowOf q s l f k) 9 (by omega) (by omega)
            rw [w64 (n := highOf q s l b (k + 1) - 1 - lowOf q s l f k) (by omega) (by omega), w64 (n := t + 1) (by omega) (by omega), w64 (n := Int.tdiv _ 9) (by omega) (by omega), w64 (by omega) (by omega)]
          have td := tdiv_range (highOf q s l b (k + 1) - 1 - lowOf q s l f k) 9 (by omega) (by omega)
          have next := ihm (t + 1 + Int.tdiv (highOf q s l b (k + 1) - 1 - lowOf q s l f k) 9) (by omega) (by omega) (by omega)
          refine Ev.succ ?_
          simp only [laws_FnFlyTight.l3]
          rw [w64 (show -9223372036854775808 ≤ (k : Int) + 1 by omega) (by omega), et, w64 (show -9223372036854775808 ≤ t + 1 by omega) (by omega)]
          simp only [e1, e2, Option.bind_some]
          exact Ev.ite_pos ht (Ev.bind ef (Ev.bind ew (Ev.ite_pos (by first | rfl | trivial) (Ev.ite_pos (by first | rfl | trivial) (Ev.bind ea (Ev.ite_pos (by first | rfl | trivial) next))))))
        · exact stop t ht
    refine Ev.succ ?_
    simp only [laws_FnFlyTight.l2, eb]
    exact Ev.ite_pos (by unfold tubeRow; rw [tab_length]; omega) (Ev.ite_pos (by omega) (inner 10002 (lowOf q s l f k) (by omega) (Int.le_refl _) (by omega)))
theorem ticks_ev : ∀ (d k : Nat), k + d = l.length + 1 → Ev (fun m => laws_FnFlyTight.l0 m (rowOf q s l f b) (tubeRow l (rowOf q s l f b) l.length) (k : Int) q s l f b) true := by
  have hf := pathOk_facts h
  intro d
  induction d with
  | zero =>
    intro k hk
    refine Ev.succ ?_
    simp only [laws_FnFlyTight.l0]
    exact Ev.ite_neg (by rw [tab_length]; omega) (boxes_ev h ok l.length 0 (by omega))
  | succ d ih =>
    intro k hk
    have hn := ih (k + 1) (by omega)
    rw [show (((k + 1 : Nat)) : Int) = (k : Int) + 1 by omega] at hn
    have r1 := span_range h ok k (by omega)
    have er : rd_T37 (rowOf q s l f b) (k : Int) = ⟨lowOf q s l f k, highOf q s l b k⟩ := tab_rd (l.length + 1) _ k (by omega)
    have inner : ∀ (m : Nat) (t : Int), highOf q s l b k - t < (m : Int) → lowOf q s l f k ≤ t → t ≤ 30000 → Ev (fun n => laws_FnFlyTight.l1 n (rowOf q s l f b) (tubeRow l (rowOf q s l f b) l.length) (k : Int) t q s l f b) true := by
      have stop : ∀ t : Int, ¬ t ≤ highOf q s l b k → Ev (fun n => laws_FnFlyTight.l1 n (rowOf q s l f b) (tubeRow l (rowOf q s l f b) l.length) (k : Int) t q s l f b) true := by
        intro t ht
        refine Ev.succ ?_
        simp only [laws_FnFlyTight.l1, er, tab_length]
        rw [w64 (show -9223372036854775808 ≤ (k : Int) + 1 by omega) (by omega)]
        exact Ev.ite_pos (by omega) (Ev.ite_pos (by omega) (Ev.ite_neg ht hn))
      intro m
      induction m with
      | zero => intro t hm h1 h2; exact stop t (by omega)
      | succ m ihm =>
        intro t hm h1 h2
        by_cases ht : t ≤ highOf q s l b k
        · obtain ⟨g, hg, g1⟩ := through hf.1.2.1 ok k t h1 ht
          obtain ⟨p1, f1⟩ := held_path h hg k (by omega) t t (by omega) (by omega)
          have e1 := held_ev q s l f b k t t (by omega)
          have es := impl_law q s (heldRow l k t t) (heldF1 l f k t) (heldB1 l b k t)
          rw [spansOf_ok p1 f1] at es
          have td := tdiv_range (highOf q s l b k - lowOf q s l f k) 9 (by omega) (by omega)
          have et : wrap64 (wrap64 (t + 1) + wrap64 (Int.tdiv (wrap64 (highOf q s l b k - lowOf q s l f k)) 9)) = t + 1 + Int.tdiv (highOf q s l b k - lowOf q s l f k) 9 := by
            rw [w64 (n := highOf q s l b k - lowOf q s l f k) (by omega) (by omega), w64 (n := t + 1) (by omega) (by omega), w64 (n := Int.tdiv _ 9) (by omega) (by omega), w64 (by omega) (by omega)]
          have next := ihm (t + 1 + Int.tdiv (highOf q s l b k - lowOf q s l f k) 9) (by omega) (by omega) (by omega)
          refine Ev.succ ?_
          simp only [laws_FnFlyTight.l1, er, tab_length]
          rw [et]
          simp only [e1, Option.bind_some]
          exact Ev.ite_pos (by omega) (Ev.ite_pos (by omega) (Ev.ite_pos ht (Ev.bind es (Ev.ite_pos (by first | rfl | trivial) next))))
        · exact stop t ht
    refine Ev.succ ?_
    simp only [laws_FnFlyTight.l0, er]
    exact Ev.ite_pos (by rw [tab_length]; omega) (Ev.ite_pos (by omega) (inner 10002 (lowOf q s l f k) (by omega) (Int.le_refl _) (by omega)))
end
theorem FnFlyTight : ∀ (l0 : List Int), l0.length ≤ maxLen → l0.length * 1 ≤ 140737488351232 → (∀ x ∈ l0, (Lit.int .u8 x).wf = true) → ∃ k, laws_FnFlyTight.f k l0 = some true := by
  intro l0 _ _ hl0
  refine Ev.rounds (r := true) ?_
  unfold laws_FnFlyTight.f
  by_cases hlong : (l0.length : Int) > 1048576
  · exact Ev.ite_pos hlong (Ev.val _)
  refine Ev.ite_neg hlong ?_
  obtain ⟨q, s, l, f, b, hl, hdr⟩ := draw_ev l0 hl0
  refine Ev.bind hdr (Ev.bind (impl_law q s l f b) (Ev.bind (impl_all q s l f b) (Ev.bind (spec_pathOk q s l f b) ?_)))
  have htl := listOf_length q s l f b
  have none_ : (spansOf q s l f b).2 = false → (spansOf q s l f b).1 = [] := by
    unfold spansOf spansR
    by_cases h1 : pathOk q s l f b = true
    · rw [if_pos h1]
      split
      · intro e; cases e
      · intro _; rfl
    · rw [if_neg h1]; intro _; rfl
  by_cases hok : (spansOf q s l f b).2 = true
  · have hp : pathOk q s l f b = true := by
      unfold spansOf at hok
      by_cases h1 : pathOk q s l f b = true
      · exact h1
      · rw [if_neg h1] at hok; cases hok
    have ok : spansOk idw (fun k => loAt l f (k : Int)) (fun k => hiAt l b (k : Int)) q s (holdAt l) l.length = true := by
      unfold spansOf spansR at hok
      rw [if_pos hp] at hok
      by_cases h2 : spansOk idw (fun k => loAt l f (k : Int)) (fun k => hiAt l b (k : Int)) q s (holdAt l) l.length = true
      · exact h2
      · rw [if_neg h2] at hok; cases hok
    have e1 : spansOf q s l f b = (rowOf q s l f b, true) := by unfold spansOf spansR; rw [if_pos hp, if_pos ok]
    have e2 : listOf q s l f b = tubeRow l (rowOf q s l f b) l.length := by unfold listOf; rw [e1]; rfl
    have e3 : (tubeRow l (rowOf q s l f b) l.length).length = l.length := by unfold tubeRow; exact tab_length _ _
    have hs := spec_all q s l f b
    rw [e2] at hs
    have hw := wfTube_ev (tubeRow l (rowOf q s l f b) l.length) (by omega)
    simp only [e1, e2, hp, e3]
    refine Ev.ite_neg (by decide) (Ev.bind hs (Ev.bind hw (Ev.ite_pos (by first | rfl | trivial) (Ev.ite_pos (by first | rfl | trivial) (Ev.succ ?_)))))
    simp only [laws_FnFlyTight.j0]
    exact Ev.ite_neg (by simp) (ticks_ev hp ok (l.length + 1) 0 (by omega))
  · have hok' := Bool.eq_false_iff.2 hok
    have e1 := none_ hok'
    have e2 : listOf q s l f b = [] := by unfold listOf; rw [if_neg hok]
    have hs := spec_all q s l f b
    rw [e2] at hs
    have hw := wfTube_ev [] (by simp)
    have fin : Ev (fun k => laws_FnFlyTight.j0 k ([] : List S37) ([] : List S40) false q s l f b) true := by
      refine Ev.succ ?_
      simp only [laws_FnFlyTight.j0]
      refine Ev.ite_neg (by decide) (Ev.succ ?_)
      simp only [laws_FnFlyTight.l0]
      refine Ev.ite_neg (by simp) (Ev.succ ?_)
      simp only [laws_FnFlyTight.l2]
      exact Ev.ite_neg (by simp) (Ev.val _)
    simp only [hok', e1, e2]
    by_cases hp : pathOk q s l f b = true
    · rw [hp]
      exact Ev.ite_pos (by decide) (Ev.ite_neg (by decide) (Ev.bind hs (Ev.bind hw (Ev.ite_pos (by first | rfl | trivial) fin))))
    · rw [Bool.eq_false_iff.2 hp]
      exact Ev.ite_neg (by decide) (Ev.bind hs (Ev.bind hw (Ev.ite_pos (by first | rfl | trivial) (Ev.ite_neg (by decide) fin))))
end Go.Proofs.Ytidoahlbaeiemaa.Pure
