/-
  The law FnExactFlyLawful over numbers and lists: both tell the same of every path and every list of ticks.
-/
import Derived.Test.YtidenmcoilmbcaaSayFnExactFlyLawful
import Derived.Test.YtidenmcoilmbcaaStdFnExactFlyLawful
namespace Go.Proofs.Ytidenmcoilmbcaa.Pure
open Go.RowKit Go.Proofs.Ytidenmcoilmbcaa.QFnExactFlyLawful Go.Proofs.YtidenmcoilmbcaaW.PrintWords Go.Proofs.Ytidenmcoilmbcaa.Kit Go.Proofs.Ytidenmcoilmbcaa.StdFnExactFlyLawful Go.Proofs.Ytidenmcoilmbcaa.SayFnExactFlyLawful
set_option linter.unusedSimpArgs false
set_option linter.unusedVariables false
/-! #### the law's own helpers on paths -/
theorem szFlyPath_eq (q s : Int) (l : List S104) (f b : Int) (hm : l.length ≤ 9223372036854775807) (a : Int) (h0 : 0 ≤ a) (ha : a ≤ 1048576) : laws_szFlyPath.f q s l f b a = some (if (l.length : Int) ≤ a then a - l.length else -1) := by
  unfold laws_szFlyPath.f
  rw [szFlyStepS_eq l hm a h0 ha]
  simp only [Option.bind_some]
  by_cases h : (l.length : Int) ≤ a
  · rw [if_pos h, if_neg (by omega)]
  · rw [if_neg h, if_pos (by omega)]
theorem toFlyPath_ev (q s : Int) (l : List S104) (f b : Int) (hm : l.length ≤ 1048576) : Ev (fun k => laws_toFlyPath.f k q s l f b) (q, s, l.map conv_toFlyStepS, f, b) := by
  unfold laws_toFlyPath.f laws_toFlyKind.f
  simp only [Option.bind_some]
  exact Ev.bind (toFlyStepS_ev l hm) (Ev.val _)
theorem eqFlyPath_ev (q s : Int) (l : List S88) (f b : Int) (hm : l.length ≤ 1048576) : Ev (fun k => laws_eqFlyPath.f k q s l f b q s l f b) true := by
  unfold laws_eqFlyPath.f laws_eqFlyKind.f
  simp only [if_true, Option.bind_some]
  exact Ev.bind (eqFlyStepS_ev l hm) (Ev.ite_pos rfl (Ev.val _))
/-! #### a path that is ok, said once -/
def kindOk (q s : Int) : Bool := decide (1 ≤ q ∧ q ≤ s ∧ s ≤ 50)
def winOk (f b : Int) : Bool := decide (0 ≤ f ∧ f ≤ b ∧ b ≤ 10000)
def stepOk (x : S88) : Bool := decide ((0 ≤ x.f0 ∧ x.f0 ≤ 15) ∧ (0 ≤ x.f1 ∧ x.f1 ≤ 15) ∧ (0 ≤ x.f2 ∧ x.f2 ≤ x.f3 ∧ x.f3 ≤ 6) ∧ 0 ≤ x.f4 ∧ x.f4 ≤ x.f5 ∧ x.f5 ≤ 10000)
def nextOk (a x : S88) : Bool := decide ((-1 ≤ a.f0 - x.f0 ∧ a.f0 - x.f0 ≤ 1) ∧ (-1 ≤ a.f1 - x.f1 ∧ a.f1 - x.f1 ≤ 1) ∧ (a.f0 = x.f0 → a.f1 ≠ x.f1) ∧ a.f2 ≤ x.f3 ∧ x.f2 ≤ a.f3)
def placeOk (l : List S88) (j : Nat) : Bool := stepOk (rd_T88 l (j : Int)) && (decide (j = 0) || nextOk (rd_T88 l ((j : Int) - 1)) (rd_T88 l (j : Int)))
def pathOk (q s : Int) (l : List S88) (f b : Int) : Bool := kindOk q s && (decide (1 ≤ l.length ∧ l.length ≤ 40) && (winOk f b && allN (placeOk l) l.length 0))
theorem stepOk_iff (x : S88) : stepOk x = true ↔ ((0 ≤ x.f0 ∧ x.f0 ≤ 15) ∧ (0 ≤ x.f1 ∧ x.f1 ≤ 15) ∧ (0 ≤ x.f2 ∧ x.f2 ≤ x.f3 ∧ x.f3 ≤ 6) ∧ 0 ≤ x.f4 ∧ x.f4 ≤ x.f5 ∧ x.f5 ≤ 10000) := decide_eq_true_iff
theorem nextOk_iff (a x : S88) : nextOk a x = true ↔ ((-1 ≤ a.f0 - x.f0 ∧ a.f0 - x.f0 ≤ 1) ∧ (-1 ≤ a.f1 - x.f1 ∧ a.f1 - x.f1 ≤ 1) ∧ (a.f0 = x.f0 → a.f1 ≠ x.f1) ∧ a.f2 ≤ x.f3 ∧ x.f2 ≤ a.f3) := decide_eq_true_iff
theorem pathOk_facts {q s : Int} {l : List S88} {f b : Int} (h : pathOk q s l f b = true) : (1 ≤ q ∧ q ≤ s ∧ s ≤ 50) ∧ (1 ≤ l.length ∧ l.length ≤ 40) ∧ (0 ≤ f ∧ f ≤ b ∧ b ≤ 10000) ∧ ∀ j : Nat, j < l.length → stepOk (rd_T88 l (j : Int)) = true := by
  unfold pathOk at h
  rw [Bool.and_eq_true, Bool.and_eq_true, Bool.and_eq_true] at h
  obtain ⟨h1, h2, h3, h4⟩ := h
  refine ⟨of_decide_eq_true h1, of_decide_eq_true h2, of_decide_eq_true h3, fun j hj => ?_⟩
  have := (allN_iff _ _).1 h4 j (by omega) (by omega)
  unfold placeOk at this
  rw [Bool.and_eq_true] at this
  exact this.1
/-- The window of the i-th tick of a flight: that of step i, or of the path. -/
def loAt (l : List S88) (f : Int) (i : Int) : Int := if i < (l.length : Int) then (rd_T88 l i).f4 else f
def hiAt (l : List S88) (b : Int) (i : Int) : Int := if i < (l.length : Int) then (rd_T88 l i).f5 else b
theorem loAt_range {q s : Int} {l : List S88} {f b : Int} (h : pathOk q s l f b = true) (i : Nat) : 0 ≤ loAt l f i ∧ loAt l f i ≤ hiAt l b i ∧ hiAt l b i ≤ 10000 := by
  obtain ⟨_, _, h3, h4⟩ := pathOk_facts h
  unfold loAt hiAt
  by_cases hi : (i : Int) < (l.length : Int)
  · rw [if_pos hi, if_pos hi]
    have := (stepOk_iff _).1 (h4 i (by omega))
    omega
  · rw [if_neg hi, if_neg hi]
    omega
theorem spec_in (a b c : Int) : spec_l21In.f a b c = some (decide (b ≤ a ∧ a ≤ c)) := by
  unfold spec_l21In.f
  by_cases h : a ≥ b <;> simp [h]
theorem spec_kind (q s : Int) : spec_FlyKindOk.f q s = some (kindOk q s) := by
  unfold spec_FlyKindOk.f kindOk
  rw [spec_in]
  simp only [Option.bind_some]
  by_cases h1 : 1 ≤ q <;> by_cases h2 : q ≤ s <;> simp [h1, h2]
theorem spec_step (x : S88) : spec_l22StepOk.f x.f0 x.f1 x.f2 x.f3 x.f4 x.f5 x.f6 = some (stepOk x) := by
  unfold spec_l22StepOk.f stepOk
  simp only [spec_in, Option.bind_some, decide_eq_true_eq]
  by_cases h0 : 0 ≤ x.f0 ∧ x.f0 ≤ 15
  · rw [if_pos h0]
    by_cases h1 : 0 ≤ x.f1 ∧ x.f1 ≤ 15
    · rw [if_pos h1]
      by_cases h2 : 0 ≤ x.f2 ∧ x.f2 ≤ x.f3
      · rw [if_pos h2]
        by_cases h3 : x.f3 ≤ 6
        · rw [if_pos h3]
          by_cases h4 : 0 ≤ x.f4 ∧ x.f4 ≤ x.f5
          · rw [if_pos h4]
            congr 1
            apply decide_eq_decide.2
            omega
          · rw [if_neg h4]
            congr 1
            symm
            apply decide_eq_false
            omega
        · rw [if_neg h3]
          congr 1
          symm
          apply decide_eq_false
          omega
      · rw [if_neg h2]
        congr 1
        symm
        apply decide_eq_false
        omega
    · rw [if_neg h1]
      congr 1
      symm
      apply decide_eq_false
      omega
  · rw [if_neg h0]
    congr 1
    symm
    apply decide_eq_false
    omega
theorem spec_next (a x : S88) (ha : stepOk a = true) (hx : stepOk x = true) : spec_l22Next.f a.f0 a.f1 a.f2 a.f3 a.f4 a.f5 a.f6 x.f0 x.f1 x.f2 x.f3 x.f4 x.f5 x.f6 = some (nextOk a x) := by
  have ha := (stepOk_iff a).1 ha
  have hx := (stepOk_iff x).1 hx
  unfold spec_l22Next.f nextOk
  rw [w64 (show -9223372036854775808 ≤ a.f0 - x.f0 by omega) (by omega), w64 (show -9223372036854775808 ≤ a.f1 - x.f1 by omega) (by omega)]
  simp only [spec_in, Option.bind_some, decide_eq_true_eq]
  repeat' split
  all_goals first | (congr 1; apply decide_eq_decide.2; omega) | (congr 1; symm; apply decide_eq_false; omega)
def specPlace (l : List S88) (j : Nat) : Bool := stepOk (rd_T88 l (j : Int)) && (decide (j = 0) || decide (spec_l22Next.f (rd_T88 l ((j : Int) - 1)).f0 (rd_T88 l ((j : Int) - 1)).f1 (rd_T88 l ((j : Int) - 1)).f2 (rd_T88 l ((j : Int) - 1)).f3 (rd_T88 l ((j : Int) - 1)).f4 (rd_T88 l ((j : Int) - 1)).f5 (rd_T88 l ((j : Int) - 1)).f6 (rd_T88 l (j : Int)).f0 (rd_T88 l (j : Int)).f1 (rd_T88 l (j : Int)).f2 (rd_T88 l (j : Int)).f3 (rd_T88 l (j : Int)).f4 (rd_T88 l (j : Int)).f5 (rd_T88 l (j : Int)).f6 = some true))
theorem next_some (a0 a1 a2 a3 a4 a5 : Int) (a6 : Bool) (x0 x1 x2 x3 x4 x5 : Int) (x6 : Bool) : ∃ t, spec_l22Next.f a0 a1 a2 a3 a4 a5 a6 x0 x1 x2 x3 x4 x5 x6 = some t := by
  unfold spec_l22Next.f
  simp only [spec_in, Option.bind_some]
  repeat' split
  all_goals exact ⟨_, rfl⟩
theorem spec_places (l : List S88) : allN (specPlace l) l.length 0 = allN (placeOk l) l.length 0 := by
  refine allN_hist _ _ (fun j _ _ hh => ?_)
  unfold specPlace placeOk
  by_cases hs : stepOk (rd_T88 l (j : Int)) = true
  · rw [hs]
    by_cases h0 : j = 0
    · simp [h0]
    · have hp := hh (j - 1) (by omega) (by omega)
      unfold specPlace at hp
      rw [Bool.and_eq_true] at hp
      have hp := hp.1
      rw [show (((j - 1 : Nat) : Int)) = (j : Int) - 1 by omega] at hp
      rw [spec_next _ _ hp hs]
      simp
  · rw [Bool.eq_false_iff.2 hs]
    simp
theorem spec_pathOk (q s : Int) (l : List S88) (f b : Int) : Ev (fun k => spec_FlyPathOk.f k q s l f b) (pathOk q s l f b) := by
  unfold spec_FlyPathOk.f pathOk
  have bad : Ev (fun k => spec_FlyPathOk.j0 k true q s l f b) false := Ev.step (fun k => (by simp only [spec_FlyPathOk.j0]; exact if_pos trivial)) (Ev.val _)
  simp only [spec_kind, spec_in, Option.bind_some]
  by_cases h1 : kindOk q s = true
  · rw [h1]
    refine Ev.ite_pos rfl ?_
    by_cases h2 : 1 ≤ l.length ∧ l.length ≤ 40
    · rw [decide_eq_true h2]
      refine Ev.ite_pos (by rw [decide_eq_true_eq]; omega) ?_
      by_cases h3 : 0 ≤ f ∧ f ≤ b
      · refine Ev.ite_pos (by rw [decide_eq_true_eq]; exact h3) ?_
        refine Ev.succ ?_
        simp only [spec_FlyPathOk.j0]
        by_cases h4 : b > 10000
        · refine Ev.ite_pos (decide_eq_true h4) (Ev.cast (Ev.val _) ?_)
          have : winOk f b = false := decide_eq_false (by omega)
          rw [this]; rfl
        · refine Ev.ite_neg (by simpa using h4) ?_
          have : winOk f b = true := decide_eq_true (by omega)
          rw [this, ← spec_places]
          have key := find_loop (F := fun k i => spec_FlyPathOk.l0 k i q s l f b) l.length (fun j => !specPlace l j) (fun _ => false) true ?_ ?_ ?_ l.length 0 (by omega)
          · exact key
          · intro i hi hp
            refine Ev.step (fun k => ?_) (Ev.val _)
            simp only [spec_FlyPathOk.l0, if_pos (show (i : Int) < (l.length : Int) by omega), if_pos (show (0 : Int) ≤ i by omega), spec_step, Option.bind_some]
            unfold specPlace at hp
            by_cases hs : stepOk (rd_T88 l (i : Int)) = true
            · rw [hs] at hp ⊢
              rw [if_pos rfl]
              by_cases hi0 : i = 0
              · simp [hi0] at hp
              · rw [if_pos (show (i : Int) > 0 by omega), w64 (show -9223372036854775808 ≤ (i : Int) - 1 by omega) (by omega), if_pos (by omega), if_pos (by omega)]
                obtain ⟨t, ht⟩ := next_some (rd_T88 l ((i : Int) - 1)).f0 (rd_T88 l ((i : Int) - 1)).f1 (rd_T88 l ((i : Int) - 1)).f2 (rd_T88 l ((i : Int) - 1)).f3 (rd_T88 l ((i : Int) - 1)).f4 (rd_T88 l ((i : Int) - 1)).f5 (rd_T88 l ((i : Int) - 1)).f6 (rd_T88 l (i : Int)).f0 (rd_T88 l (i : Int)).f1 (rd_T88 l (i : Int)).f2 (rd_T88 l (i : Int)).f3 (rd_T88 l (i : Int)).f4 (rd_T88 l (i : Int)).f5 (rd_T88 l (i : Int)).f6
                rw [ht] at hp ⊢
                simp only [Option.bind_some]
                have : t = false := by simpa [hi0] using hp
                rw [this]
                rfl
            · rw [if_neg hs]
          · intro i hi hp r' hr
            refine Ev.step (fun k => ?_) hr
            simp only [spec_FlyPathOk.l0, if_pos (show (i : Int) < (l.length : Int) by omega), if_pos (show (0 : Int) ≤ i by omega), spec_step, Option.bind_some]
            unfold specPlace at hp
            by_cases hs : stepOk (rd_T88 l (i : Int)) = true
            · rw [hs] at hp ⊢
              rw [if_pos rfl]
              by_cases hi0 : i = 0
              · rw [if_neg (by omega), w64 (by omega) (by omega)]
              · rw [if_pos (show (i : Int) > 0 by omega), w64 (show -9223372036854775808 ≤ (i : Int) - 1 by omega) (by omega), if_pos (by omega), if_pos (by omega)]
                obtain ⟨t, ht⟩ := next_some (rd_T88 l ((i : Int) - 1)).f0 (rd_T88 l ((i : Int) - 1)).f1 (rd_T88 l ((i : Int) - 1)).f2 (rd_T88 l ((i : Int) - 1)).f3 (rd_T88 l ((i : Int) - 1)).f4 (rd_T88 l ((i : Int) - 1)).f5 (rd_T88 l ((i : Int) - 1)).f6 (rd_T88 l (i : Int)).f0 (rd_T88 l (i : Int)).f1 (rd_T88 l (i : Int)).f2 (rd_T88 l (i : Int)).f3 (rd_T88 l (i : Int)).f4 (rd_T88 l (i : Int)).f5 (rd_T88 l (i : Int)).f6
                rw [ht] at hp ⊢
                simp only [Option.bind_some]
                have : t = true := by simpa [hi0] using hp
                rw [this, if_pos rfl, w64 (by omega) (by omega)]
            · simp [hs] at hp
          · refine Ev.step (fun k => ?_) (Ev.val _)
            simp only [spec_FlyPathOk.l0]
            rw [if_neg (by omega)]
      · refine Ev.ite_neg (by rw [decide_eq_true_eq]; exact h3) (Ev.cast bad ?_)
        have : winOk f b = false := decide_eq_false (by omega)
        rw [this]; rfl
    · rw [decide_eq_false h2]
      exact Ev.ite_neg (by rw [decide_eq_true_eq]; omega) bad
  · rw [Bool.eq_false_iff.2 h1]
    exact Ev.ite_neg (by decide) bad
theorem impl_in (a b c : Int) : impl_within.f a b c = some (decide (b ≤ a ∧ a ≤ c)) := by
  unfold impl_within.f
  by_cases h : a ≥ b <;> simp [h]
theorem impl_kind (q s : Int) : impl_FlyKindOk.f q s = some (kindOk q s) := by
  unfold impl_FlyKindOk.f kindOk
  by_cases h1 : 1 ≤ q <;> by_cases h2 : q ≤ s <;> simp [h1, h2]
theorem impl_win (f b : Int) : impl_window.f f b = some (winOk f b) := by
  unfold impl_window.f winOk
  by_cases h1 : 0 ≤ f <;> by_cases h2 : f ≤ b <;> simp [h1, h2]
def distW (a b : Int) : Int := if a > b then wrap64 (a - b) else wrap64 (b - a)
theorem impl_distW (a b : Int) : impl_dist.f a b = some (distW a b) := by
  unfold impl_dist.f distW
  split <;> rfl
def nextW (a x : S88) : Bool := decide ((a.f0 = x.f0 → a.f1 ≠ x.f1) ∧ distW a.f0 x.f0 ≤ 1 ∧ distW a.f1 x.f1 ≤ 1 ∧ a.f2 ≤ x.f3 ∧ x.f2 ≤ a.f3)
theorem nextW_eq (a x : S88) (ha : stepOk a = true) (hx : stepOk x = true) : nextW a x = nextOk a x := by
  have ha := (stepOk_iff a).1 ha
  have hx := (stepOk_iff x).1 hx
  unfold nextW nextOk
  have d : ∀ p r : Int, 0 ≤ p → p ≤ 15 → 0 ≤ r → r ≤ 15 → (distW p r ≤ 1 ↔ -1 ≤ p - r ∧ p - r ≤ 1) := by
    intro p r _ _ _ _
    unfold distW
    by_cases h : p > r
    · rw [if_pos h, w64 (by omega) (by omega)]; omega
    · rw [if_neg h, w64 (by omega) (by omega)]; omega
  have d0 := d a.f0 x.f0 (by omega) (by omega) (by omega) (by omega)
  have d1 := d a.f1 x.f1 (by omega) (by omega) (by omega) (by omega)
  apply decide_eq_decide.2
  rw [d0, d1]
  omega
def implPlace (l : List S88) (j : Nat) : Bool := stepOk (rd_T88 l (j : Int)) && (decide (j = 0) || nextW (rd_T88 l ((j : Int) - 1)) (rd_T88 l (j : Int)))
theorem impl_places (l : List S88) : allN (implPlace l) l.length 0 = allN (placeOk l) l.length 0 := by
  refine allN_hist _ _ (fun j _ _ hh => ?_)
  unfold implPlace placeOk
  by_cases hs : stepOk (rd_T88 l (j : Int)) = true
  · rw [hs]
    by_cases h0 : j = 0
    · simp [h0]
    · have hp := hh (j - 1) (by omega) (by omega)
      unfold implPlace at hp
      rw [Bool.and_eq_true] at hp
      have hp := hp.1
      rw [show (((j - 1 : Nat) : Int)) = (j : Int) - 1 by omega] at hp
      rw [nextW_eq _ _ hp hs]
  · rw [Bool.eq_false_iff.2 hs]
    simp
theorem impl_round (q s : Int) (l : List S88) (f b : Int) (i : Nat) (hi : i < l.length) (k : Nat) : impl_FlyPathOk.l0 (k + 1) l (l.length : Int) i q s l f b =
    impl_FlyPathOk.j2 k i l (l.length : Int) i (!stepOk (rd_T88 l (i : Int))) q s l f b (rd_T88 l (i : Int)).f0 (rd_T88 l (i : Int)).f1 (rd_T88 l (i : Int)).f2 (rd_T88 l (i : Int)).f3 (rd_T88 l (i : Int)).f4 (rd_T88 l (i : Int)).f5 (rd_T88 l (i : Int)).f6 := by
  simp only [impl_FlyPathOk.l0, if_pos (show (i : Int) < (l.length : Int) by omega), if_pos (show (0 : Int) ≤ i by omega), impl_in, impl_win, Option.bind_some, decide_eq_true_eq]
  generalize rd_T88 l (i : Int) = x
  have e : ∀ c : Bool, c = stepOk x → ∀ {α : Type} (g : Bool → α), g (!c) = g (!stepOk x) := fun c h α g => by rw [h]
  by_cases h0 : 0 ≤ x.f0 ∧ x.f0 ≤ 15
  · rw [if_pos h0]
    by_cases h1 : 0 ≤ x.f1 ∧ x.f1 ≤ 15
    · rw [if_pos h1]
      by_cases h2 : 0 ≤ x.f2
      · rw [if_pos h2]
        by_cases h3 : x.f2 ≤ x.f3
        · rw [if_pos h3]
          by_cases h4 : x.f3 ≤ 6
          · rw [if_pos h4]
            have : winOk x.f4 x.f5 = stepOk x := by
              unfold winOk stepOk
              apply decide_eq_decide.2
              omega
            rw [this]
          · rw [if_neg h4, show stepOk x = false from decide_eq_false (by omega)]; rfl
        · rw [if_neg h3, show stepOk x = false from decide_eq_false (by omega)]; rfl
      · rw [if_neg h2, show stepOk x = false from decide_eq_false (by omega)]; rfl
    · rw [if_neg h1, show stepOk x = false from decide_eq_false (by omega)]; rfl
  · rw [if_neg h0, show stepOk x = false from decide_eq_false (by omega)]; rfl
theorem impl_second (q s : Int) (l : List S88) (f b : Int) (i : Nat) (hi : i < l.length) (h0 : i ≠ 0) (x : S88) (k : Nat) (hl : l.length ≤ 40) : impl_FlyPathOk.j2 (k + 1) i l (l.length : Int) i false q s l f b x.f0 x.f1 x.f2 x.f3 x.f4 x.f5 x.f6 =
    if nextW (rd_T88 l ((i : Int) - 1)) x = true then impl_FlyPathOk.l0 k l (l.length : Int) ((i : Int) + 1) q s l f b else some false := by
  simp only [impl_FlyPathOk.j2, impl_distW, Option.bind_some]
  rw [if_neg (show ¬ (false = true) by decide), if_neg (show ¬ (i : Int) = 0 by omega), w64 (show -9223372036854775808 ≤ (i : Int) - 1 by omega) (by omega), if_pos (by omega), if_pos (by omega), w64 (show -9223372036854775808 ≤ (i : Int) + 1 by omega) (by omega)]
  generalize rd_T88 l ((i : Int) - 1) = a
  generalize impl_FlyPathOk.l0 k l (l.length : Int) ((i : Int) + 1) q s l f b = r
  unfold nextW
  simp only [decide_eq_true_eq]
  by_cases c0 : a.f0 = x.f0
  · rw [if_pos c0]
    by_cases c1 : a.f1 = x.f1
    · rw [if_pos c1, if_neg (fun h => h.1 c0 c1)]
    · rw [if_neg c1]
      repeat' split
      all_goals first | rfl | (exfalso; omega)
  · rw [if_neg c0]
    repeat' split
    all_goals first | rfl | (exfalso; omega)
theorem impl_pathOk (q s : Int) (l : List S88) (f b : Int) : Ev (fun k => impl_FlyPathOk.f k q s l f b) (pathOk q s l f b) := by
  unfold impl_FlyPathOk.f pathOk
  have bad : Ev (fun k => impl_FlyPathOk.j0 k true q s l f b) false := Ev.step (fun k => (by simp only [impl_FlyPathOk.j0]; exact if_pos trivial)) (Ev.val _)
  simp only [impl_kind, impl_in, impl_win, Option.bind_some]
  by_cases h1 : kindOk q s = true
  · rw [h1]
    refine Ev.ite_pos rfl ?_
    by_cases h2 : 1 ≤ l.length ∧ l.length ≤ 40
    · rw [decide_eq_true h2]
      refine Ev.ite_pos (by rw [decide_eq_true_eq]; omega) ?_
      refine Ev.succ ?_
      simp only [impl_FlyPathOk.j0]
      by_cases h3 : winOk f b = true
      · rw [h3, ← impl_places]
        refine Ev.ite_neg (by decide) ?_
        have key := find_loop (F := fun k i => impl_FlyPathOk.l0 k l (l.length : Int) i q s l f b) l.length (fun j => !implPlace l j) (fun _ => false) true ?_ ?_ ?_ l.length 0 (by omega)
        · exact key
        · intro i hi hp
          refine Ev.step (impl_round q s l f b i hi) ?_
          unfold implPlace at hp
          refine Ev.succ ?_
          by_cases hs : stepOk (rd_T88 l (i : Int)) = true
          · rw [hs] at hp ⊢
            by_cases hi0 : i = 0
            · simp [hi0] at hp
            · refine Ev.congr (fun k => impl_second q s l f b i hi hi0 _ k h2.2) ?_
              refine Ev.ite_neg ?_ (Ev.val _)
              simpa [hi0] using hp
          · rw [Bool.eq_false_iff.2 hs]
            simp only [impl_FlyPathOk.j2]
            exact Ev.ite_pos rfl (Ev.val _)
        · intro i hi hp r' hr
          refine Ev.step (impl_round q s l f b i hi) ?_
          unfold implPlace at hp
          refine Ev.succ ?_
          by_cases hs : stepOk (rd_T88 l (i : Int)) = true
          · rw [hs] at hp ⊢
            by_cases hi0 : i = 0
            · subst hi0
              simp only [impl_FlyPathOk.j2]
              refine Ev.ite_neg (by decide) (Ev.ite_pos rfl ?_)
              rw [w64 (by omega) (by omega)]
              exact hr
            · refine Ev.congr (fun k => impl_second q s l f b i hi hi0 _ k h2.2) ?_
              refine Ev.ite_pos ?_ hr
              simpa [hi0] using hp
          · simp [hs] at hp
        · refine Ev.step (fun k => ?_) (Ev.val _)
          simp only [impl_FlyPathOk.l0]
          rw [if_neg (by omega)]
      · rw [Bool.eq_false_iff.2 h3]
        exact Ev.ite_pos rfl (Ev.val _)
    · rw [decide_eq_false h2]
      exact Ev.ite_neg (by rw [decide_eq_true_eq]; omega) bad
  · rw [Bool.eq_false_iff.2 h1]
    exact Ev.ite_neg (by decide) bad
/-! #### flights that keep to a path -/
def keepsAt (q s : Int) (l : List S88) (f b : Int) (t : List Int) (i : Nat) : Bool := decide (loAt l f i ≤ rd t (i : Int) ∧ rd t (i : Int) ≤ hiAt l b i) && (decide (i = 0) || decide (q ≤ rd t (i : Int) - rd t ((i : Int) - 1) ∧ ((rd_T88 l ((i : Int) - 1)).f6 = true ∨ rd t (i : Int) - rd t ((i : Int) - 1) ≤ s)))
def lawful (q s : Int) (l : List S88) (f b : Int) (t : List Int) : Bool := pathOk q s l f b && (decide (t.length = l.length + 1) && allN (keepsAt q s l f b t) t.length 0)
theorem spec_low (q s : Int) (l : List S88) (f b : Int) (i : Int) (h : 0 ≤ i) : spec_l23Low.f q s l f b i = some (loAt l f i) := by
  unfold spec_l23Low.f loAt
  by_cases hi : i < (l.length : Int)
  · rw [if_pos hi, if_pos h, if_pos hi]
  · rw [if_neg hi, if_neg hi]
theorem spec_high (q s : Int) (l : List S88) (f b : Int) (i : Int) (h : 0 ≤ i) : spec_l23High.f q s l f b i = some (hiAt l b i) := by
  unfold spec_l23High.f hiAt
  by_cases hi : i < (l.length : Int)
  · rw [if_pos hi, if_pos h, if_pos hi]
  · rw [if_neg hi, if_neg hi]
def mostAt (s : Int) (l : List S88) (i : Int) : Int := if (rd_T88 l i).f6 = true then 10000 else s
theorem spec_most (q s : Int) (l : List S88) (f b : Int) (i : Int) (h : 0 ≤ i) (hi : i < (l.length : Int)) : spec_l23Most.f q s l f b i = some (mostAt s l i) := by
  unfold spec_l23Most.f mostAt
  rw [if_pos h, if_pos hi]
  split <;> rfl
def keepsSpec (q s : Int) (l : List S88) (f b : Int) (t : List Int) (i : Nat) : Bool := decide (loAt l f i ≤ rd t (i : Int) ∧ rd t (i : Int) ≤ hiAt l b i) && (decide (i = 0) || decide (q ≤ wrap64 (rd t (i : Int) - rd t ((i : Int) - 1)) ∧ wrap64 (rd t (i : Int) - rd t ((i : Int) - 1)) ≤ mostAt s l ((i : Int) - 1)))
theorem keepsSpec_all {q s : Int} {l : List S88} {f b : Int} (hok : pathOk q s l f b = true) (t : List Int) : allN (keepsSpec q s l f b t) t.length 0 = allN (keepsAt q s l f b t) t.length 0 := by
  refine allN_hist _ _ (fun j _ _ hh => ?_)
  unfold keepsSpec keepsAt
  by_cases hw : loAt l f j ≤ rd t (j : Int) ∧ rd t (j : Int) ≤ hiAt l b j
  · rw [decide_eq_true hw]
    by_cases h0 : j = 0
    · simp [h0]
    · have hp := hh (j - 1) (by omega) (by omega)
      unfold keepsSpec at hp
      rw [Bool.and_eq_true] at hp
      have hp := of_decide_eq_true hp.1
      rw [show (((j - 1 : Nat) : Int)) = (j : Int) - 1 by omega] at hp
      have r1 := loAt_range hok j
      have r0 := loAt_range hok (j - 1)
      rw [show (((j - 1 : Nat) : Int)) = (j : Int) - 1 by omega] at r0
      rw [w64 (by omega) (by omega)]
      congr 2
      apply decide_eq_decide.2
      unfold mostAt
      by_cases hh6 : (rd_T88 l ((j : Int) - 1)).f6 = true
      · rw [if_pos hh6]; simp only [hh6, true_or, and_true]; omega
      · rw [if_neg hh6]; simp [hh6]
  · rw [decide_eq_false hw]
    simp
theorem spec_lawful (q s : Int) (l : List S88) (f b : Int) (t : List Int) (ht : t.length ≤ 9223372036854775807) : Ev (fun k => spec_FlyLawful.f k q s l f b t) (lawful q s l f b t) := by
  unfold spec_FlyLawful.f lawful
  have bad : Ev (fun k => spec_FlyLawful.j0 k t true q s l f b) false := Ev.step (fun k => (by simp only [spec_FlyLawful.j0]; exact if_pos trivial)) (Ev.val _)
  refine Ev.bind (spec_pathOk q s l f b) ?_
  by_cases h1 : pathOk q s l f b = true
  · rw [h1]
    refine Ev.ite_pos rfl ?_
    have hf := pathOk_facts h1
    rw [w64 (by omega) (by omega)]
    refine Ev.succ ?_
    simp only [spec_FlyLawful.j0]
    by_cases h2 : t.length = l.length + 1
    · rw [decide_eq_true h2]
      refine Ev.ite_neg (by rw [bne_iff_ne]; omega) ?_
      rw [← keepsSpec_all h1]
      have round : ∀ (i : Nat), i < t.length → ∀ k, spec_FlyLawful.l0 (k + 1) t i q s l f b = if keepsSpec q s l f b t i = true then spec_FlyLawful.l0 k t ((i : Int) + 1) q s l f b else some false := by
        intro i hi k
        simp only [spec_FlyLawful.l0, if_pos (show (i : Int) < (t.length : Int) by omega), if_pos (show (0 : Int) ≤ i by omega), spec_low q s l f b i (by omega), spec_high q s l f b i (by omega), spec_in, Option.bind_some]
        rw [w64 (show -9223372036854775808 ≤ (i : Int) + 1 by omega) (by omega), w64 (show -9223372036854775808 ≤ (i : Int) - 1 by omega) (by omega)]
        unfold keepsSpec
        by_cases hw : loAt l f i ≤ rd t (i : Int) ∧ rd t (i : Int) ≤ hiAt l b i
        · rw [decide_eq_true hw, if_pos rfl]
          by_cases h0 : i = 0
          · rw [if_neg (by omega)]
            simp [h0]
          · rw [if_pos (show (i : Int) > 0 by omega), if_pos (by omega), if_pos (by omega), spec_most q s l f b ((i : Int) - 1) (by omega) (by omega)]
            simp only [Option.bind_some, Bool.true_and]
            rw [decide_eq_false h0, Bool.false_or]
        · rw [decide_eq_false hw]
          rfl
      refine find_loop (F := fun k i => spec_FlyLawful.l0 k t i q s l f b) t.length (fun j => !keepsSpec q s l f b t j) (fun _ => false) true ?_ ?_ ?_ t.length 0 (by omega)
      · intro i hi hp
        exact Ev.step (round i hi) (Ev.ite_neg (by simpa using hp) (Ev.val _))
      · intro i hi hp r' hr
        exact Ev.step (round i hi) (Ev.ite_pos (by simpa using hp) hr)
      · refine Ev.step (fun k => ?_) (Ev.val _)
        simp only [spec_FlyLawful.l0]
        rw [if_neg (by omega)]
    · rw [decide_eq_false h2]
      exact Ev.ite_pos (by rw [bne_iff_ne]; omega) (Ev.val _)
  · rw [Bool.eq_false_iff.2 h1]
    exact Ev.ite_neg (by decide) bad
theorem impl_bound (q s : Int) (l : List S88) (f b : Int) (i : Int) (h : 0 ≤ i) (hi : i ≤ (l.length : Int)) : impl_FlyPath_bound.f q s l f b i = some (loAt l f i, hiAt l b i) := by
  unfold impl_FlyPath_bound.f loAt hiAt
  by_cases e : i = (l.length : Int)
  · rw [if_pos e, if_neg (by omega), if_neg (by omega)]
  · rw [if_neg e, if_pos h, if_pos (by omega), if_pos (by omega), if_pos (by omega)]
def keepsImpl (q s : Int) (l : List S88) (f b : Int) (t : List Int) (i : Nat) : Bool := decide (loAt l f i ≤ rd t (i : Int) ∧ rd t (i : Int) ≤ hiAt l b i) && (decide (i = 0) || decide (wrap64 (rd t ((i : Int) - 1) + q) ≤ rd t (i : Int) ∧ ((rd_T88 l ((i : Int) - 1)).f6 = true ∨ rd t (i : Int) ≤ wrap64 (rd t ((i : Int) - 1) + s))))
theorem keepsImpl_all {q s : Int} {l : List S88} {f b : Int} (hok : pathOk q s l f b = true) (t : List Int) : allN (keepsImpl q s l f b t) t.length 0 = allN (keepsAt q s l f b t) t.length 0 := by
  refine allN_hist _ _ (fun j _ _ hh => ?_)
  unfold keepsImpl keepsAt
  by_cases hw : loAt l f j ≤ rd t (j : Int) ∧ rd t (j : Int) ≤ hiAt l b j
  · rw [decide_eq_true hw]
    by_cases h0 : j = 0
    · simp [h0]
    · have hp := hh (j - 1) (by omega) (by omega)
      unfold keepsImpl at hp
      rw [Bool.and_eq_true] at hp
      have hp := of_decide_eq_true hp.1
      rw [show (((j - 1 : Nat) : Int)) = (j : Int) - 1 by omega] at hp
      have r1 := loAt_range hok j
      have r0 := loAt_range hok (j - 1)
      have hf := pathOk_facts hok
      rw [show (((j - 1 : Nat) : Int)) = (j : Int) - 1 by omega] at r0
      rw [w64 (show -9223372036854775808 ≤ rd t ((j : Int) - 1) + q by omega) (by omega), w64 (show -9223372036854775808 ≤ rd t ((j : Int) - 1) + s by omega) (by omega)]
      congr 2
      apply decide_eq_decide.2
      refine and_congr (by omega) (or_congr Iff.rfl (by omega))
  · rw [decide_eq_false hw]
    simp
theorem impl_lawful (q s : Int) (l : List S88) (f b : Int) (t : List Int) (ht : t.length ≤ 9223372036854775807) : Ev (fun k => impl_FlyLawful.f k q s l f b t) (lawful q s l f b t) := by
  unfold impl_FlyLawful.f lawful
  have bad : Ev (fun k => impl_FlyLawful.j0 k t true q s l f b) false := Ev.step (fun k => (by simp only [impl_FlyLawful.j0]; exact if_pos trivial)) (Ev.val _)
  refine Ev.bind (impl_pathOk q s l f b) ?_
  by_cases h1 : pathOk q s l f b = true
  · rw [h1]
    refine Ev.ite_pos rfl ?_
    have hf := pathOk_facts h1
    rw [w64 (by omega) (by omega)]
    refine Ev.succ ?_
    simp only [impl_FlyLawful.j0]
    by_cases h2 : t.length = l.length + 1
    · rw [decide_eq_true h2]
      refine Ev.ite_neg (by rw [bne_iff_ne]; omega) ?_
      rw [← keepsImpl_all h1]
      have round : ∀ (i : Nat), i < t.length → ∀ k, impl_FlyLawful.l0 (k + 1) t t (t.length : Int) i q s l f b = if keepsImpl q s l f b t i = true then impl_FlyLawful.l0 k t t (t.length : Int) ((i : Int) + 1) q s l f b else some false := by
        intro i hi k
        simp only [impl_FlyLawful.l0, if_pos (show (i : Int) < (t.length : Int) by omega), if_pos (show (0 : Int) ≤ i by omega), impl_bound q s l f b i (by omega) (by omega), impl_in, Option.bind_some]
        rw [w64 (show -9223372036854775808 ≤ (i : Int) + 1 by omega) (by omega), w64 (show -9223372036854775808 ≤ (i : Int) - 1 by omega) (by omega)]
        unfold keepsImpl
        generalize impl_FlyLawful.l0 k t t (t.length : Int) ((i : Int) + 1) q s l f b = r
        by_cases hw : loAt l f i ≤ rd t (i : Int) ∧ rd t (i : Int) ≤ hiAt l b i
        · rw [decide_eq_true hw, if_pos rfl]
          by_cases h0 : i = 0
          · rw [if_neg (by omega)]
            simp [h0]
          · rw [if_pos (show (i : Int) > 0 by omega), if_pos (by omega), if_pos (by omega), if_pos (show (i : Int) - 1 < (l.length : Int) by omega)]
            rw [decide_eq_false h0, Bool.false_or]
            simp only [Bool.true_and, decide_eq_true_eq]
            by_cases c1 : rd t (i : Int) < wrap64 (rd t ((i : Int) - 1) + q)
            · rw [if_pos c1, if_neg (by omega)]
            · rw [if_neg c1]
              by_cases c2 : rd t (i : Int) > wrap64 (rd t ((i : Int) - 1) + s)
              · rw [if_pos c2]
                by_cases c3 : (rd_T88 l ((i : Int) - 1)).f6 = true
                · rw [if_pos c3, if_pos ⟨by omega, .inl c3⟩]
                · rw [if_neg c3, if_neg (fun h => h.2.elim c3 (fun h3 => by omega))]
              · rw [if_neg c2, if_pos ⟨by omega, .inr (by omega)⟩]
        · rw [decide_eq_false hw]
          rfl
      refine find_loop (F := fun k i => impl_FlyLawful.l0 k t t (t.length : Int) i q s l f b) t.length (fun j => !keepsImpl q s l f b t j) (fun _ => false) true ?_ ?_ ?_ t.length 0 (by omega)
      · intro i hi hp
        exact Ev.step (round i hi) (Ev.ite_neg (by simpa using hp) (Ev.val _))
      · intro i hi hp r' hr
        exact Ev.step (round i hi) (Ev.ite_pos (by simpa using hp) hr)
      · refine Ev.step (fun k => ?_) (Ev.val _)
        simp only [impl_FlyLawful.l0]
        rw [if_neg (by omega)]
    · rw [decide_eq_false h2]
      exact Ev.ite_pos (by rw [bne_iff_ne]; omega) (Ev.val _)
  · rw [Bool.eq_false_iff.2 h1]
    exact Ev.ite_neg (by decide) bad
theorem FnExactFlyLawful : Said := by
  intro q s l f b t ⟨_, _, ⟨hm, _⟩, _, _⟩ ⟨ht, _⟩
  refine Ev.rounds (r := true) ?_
  unfold laws_FnExactFlyLawful.f
  by_cases h0 : (t.length : Int) > 1048576
  · exact Ev.ite_pos h0 (Ev.val _)
  · refine Ev.ite_neg h0 ?_
    have ht : t.length ≤ 1048576 := by omega
    rw [szFlyPath_eq q s l f b hm 1048576 (by omega) (by omega)]
    simp only [Option.bind_some]
    by_cases h : (l.length : Int) ≤ 1048576
    · have hl : l.length ≤ 1048576 := by omega
      have hl' : (l.map conv_toFlyStepS).length ≤ 1048576 := by rw [List.length_map]; exact hl
      rw [if_pos h]
      refine Ev.ite_neg (by omega) (Ev.bind (toFlyPath_ev q s l f b hl) (Ev.bind (toIntS_ev t ht) (Ev.bind (spec_lawful _ _ _ _ _ _ (by omega)) (Ev.bind (toFlyPath_ev q s l f b hl) (Ev.bind (toIntS_ev t ht) (Ev.bind (impl_lawful _ _ _ _ _ _ (by omega)) (Ev.ite_neg (by simp) ?_)))))))
      exact Ev.bind (toFlyPath_ev q s l f b hl) (Ev.bind (eqFlyPath_ev _ _ _ _ _ hl') (Ev.ite_pos rfl (Ev.bind (toIntS_ev t ht) (Ev.bind (eqIntS_ev _ ht) (Ev.ite_pos rfl (Ev.val _))))))
    · rw [if_neg h]
      exact Ev.ite_pos (by omega) (Ev.val _)
end Go.Proofs.Ytidenmcoilmbcaa.Pure
