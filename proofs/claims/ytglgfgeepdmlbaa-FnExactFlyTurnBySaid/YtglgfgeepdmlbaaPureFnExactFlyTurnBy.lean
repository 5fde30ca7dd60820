/-
  The law FnExactFlyTurnBy over numbers and lists: both tell the same last tick until which one may turn to another path.
-/
import Derived.Test.YtglgfgeepdmlbaaSayFnExactFlyTurnBy
import Derived.Test.YtglgfgeepdmlbaaStdFnExactFlyTurnBy
namespace Go.Proofs.Ytglgfgeepdmlbaa.Pure
open Go.RowKit Go.Proofs.Ytglgfgeepdmlbaa.QFnExactFlyTurnBy Go.Proofs.YtglgfgeepdmlbaaW.PrintWords Go.Proofs.Ytglgfgeepdmlbaa.Kit Go.Proofs.Ytglgfgeepdmlbaa.StdFnExactFlyTurnBy Go.Proofs.Ytglgfgeepdmlbaa.SayFnExactFlyTurnBy
set_option linter.unusedSimpArgs false
set_option linter.unusedVariables false
/-! #### the law's own helpers on paths -/
theorem szFlyPath_eq (q s : Int) (l : List S60) (f b : Int) (hm : l.length ≤ 9223372036854775807) (a : Int) (h0 : 0 ≤ a) (ha : a ≤ 1048576) : laws_szFlyPath.f q s l f b a = some (if (l.length : Int) ≤ a then a - l.length else -1) := by
  unfold laws_szFlyPath.f
  rw [szFlyStepS_eq l hm a h0 ha]
  simp only [Option.bind_some]
  by_cases h : (l.length : Int) ≤ a
  · rw [if_pos h, if_neg (by omega)]
  · rw [if_neg h, if_pos (by omega)]
theorem toFlyPath_ev (q s : Int) (l : List S60) (f b : Int) (hm : l.length ≤ 1048576) : Ev (fun k => laws_toFlyPath.f k q s l f b) (q, s, l.map conv_toFlyStepS, f, b) := by
  unfold laws_toFlyPath.f laws_toFlyKind.f
  simp only [Option.bind_some]
  exact Ev.bind (toFlyStepS_ev l hm) (Ev.val _)
theorem eqFlyPath_ev (q s : Int) (l : List S53) (f b : Int) (hm : l.length ≤ 1048576) : Ev (fun k => laws_eqFlyPath.f k q s l f b q s l f b) true := by
  unfold laws_eqFlyPath.f laws_eqFlyKind.f
  simp only [if_true, Option.bind_some]
  exact Ev.bind (eqFlyStepS_ev l hm) (Ev.ite_pos rfl (Ev.val _))
/-! #### a path that is ok, said once -/
def kindOk (q s : Int) : Bool := decide (1 ≤ q ∧ q ≤ s ∧ s ≤ 50)
def winOk (f b : Int) : Bool := decide (0 ≤ f ∧ f ≤ b ∧ b ≤ 10000)
def stepOk (x : S53) : Bool := decide ((0 ≤ x.f0 ∧ x.f0 ≤ 15) ∧ (0 ≤ x.f1 ∧ x.f1 ≤ 15) ∧ (0 ≤ x.f2 ∧ x.f2 ≤ x.f3 ∧ x.f3 ≤ 6) ∧ 0 ≤ x.f4 ∧ x.f4 ≤ x.f5 ∧ x.f5 ≤ 10000)
def nextOk (a x : S53) : Bool := decide ((-1 ≤ a.f0 - x.f0 ∧ a.f0 - x.f0 ≤ 1) ∧ (-1 ≤ a.f1 - x.f1 ∧ a.f1 - x.f1 ≤ 1) ∧ (a.f0 = x.f0 → a.f1 ≠ x.f1) ∧ a.f2 ≤ x.f3 ∧ x.f2 ≤ a.f3)
def placeOk (l : List S53) (j : Nat) : Bool := stepOk (rd_T53 l (j : Int)) && (decide (j = 0) || nextOk (rd_T53 l ((j : Int) - 1)) (rd_T53 l (j : Int)))
def pathOk (q s : Int) (l : List S53) (f b : Int) : Bool := kindOk q s && (decide (1 ≤ l.length ∧ l.length ≤ 40) && (winOk f b && allN (placeOk l) l.length 0))
theorem stepOk_iff (x : S53) : stepOk x = true ↔ ((0 ≤ x.f0 ∧ x.f0 ≤ 15) ∧ (0 ≤ x.f1 ∧ x.f1 ≤ 15) ∧ (0 ≤ x.f2 ∧ x.f2 ≤ x.f3 ∧ x.f3 ≤ 6) ∧ 0 ≤ x.f4 ∧ x.f4 ≤ x.f5 ∧ x.f5 ≤ 10000) := decide_eq_true_iff
theorem nextOk_iff (a x : S53) : nextOk a x = true ↔ ((-1 ≤ a.f0 - x.f0 ∧ a.f0 - x.f0 ≤ 1) ∧ (-1 ≤ a.f1 - x.f1 ∧ a.f1 - x.f1 ≤ 1) ∧ (a.f0 = x.f0 → a.f1 ≠ x.f1) ∧ a.f2 ≤ x.f3 ∧ x.f2 ≤ a.f3) := decide_eq_true_iff
theorem pathOk_facts {q s : Int} {l : List S53} {f b : Int} (h : pathOk q s l f b = true) : (1 ≤ q ∧ q ≤ s ∧ s ≤ 50) ∧ (1 ≤ l.length ∧ l.length ≤ 40) ∧ (0 ≤ f ∧ f ≤ b ∧ b ≤ 10000) ∧ ∀ j : Nat, j < l.length → stepOk (rd_T53 l (j : Int)) = true := by
  unfold pathOk at h
  rw [Bool.and_eq_true, Bool.and_eq_true, Bool.and_eq_true] at h
  obtain ⟨h1, h2, h3, h4⟩ := h
  refine ⟨of_decide_eq_true h1, of_decide_eq_true h2, of_decide_eq_true h3, fun j hj => ?_⟩
  have := (allN_iff _ _).1 h4 j (by omega) (by omega)
  unfold placeOk at this
  rw [Bool.and_eq_true] at this
  exact this.1
/-- The window of the i-th tick of a flight: that of step i, or of the path. -/
def loAt (l : List S53) (f : Int) (i : Int) : Int := if i < (l.length : Int) then (rd_T53 l i).f4 else f
def hiAt (l : List S53) (b : Int) (i : Int) : Int := if i < (l.length : Int) then (rd_T53 l i).f5 else b
theorem loAt_range {q s : Int} {l : List S53} {f b : Int} (h : pathOk q s l f b = true) (i : Nat) : 0 ≤ loAt l f i ∧ loAt l f i ≤ hiAt l b i ∧ hiAt l b i ≤ 10000 := by
  obtain ⟨_, _, h3, h4⟩ := pathOk_facts h
  unfold loAt hiAt
  by_cases hi : (i : Int) < (l.length : Int)
  · rw [if_pos hi, if_pos hi]
    have := (stepOk_iff _).1 (h4 i (by omega))
    omega
  · rw [if_neg hi, if_neg hi]
    omega
theorem spec_in (a b c : Int) : spec_l21In.f a b c = some (decide (b ≤ a ∧ a ≤ c)) := by
  unfold spec_l21In.f
  by_cases h : a ≥ b <;> simp [h]
theorem spec_kind (q s : Int) : spec_FlyKindOk.f q s = some (kindOk q s) := by
  unfold spec_FlyKindOk.f kindOk
  rw [spec_in]
  simp only [Option.bind_some]
  by_cases h1 : 1 ≤ q <;> by_cases h2 : q ≤ s <;> simp [h1, h2]
theorem spec_step (x : S53) : spec_l22StepOk.f x.f0 x.f1 x.f2 x.f3 x.f4 x.f5 x.f6 = some (stepOk x) := by
  unfold spec_l22StepOk.f stepOk
  simp only [spec_in, Option.bind_some, decide_eq_true_eq]
  by_cases h0 : 0 ≤ x.f0 ∧ x.f0 ≤ 15
  · rw [if_pos h0]
    by_cases h1 : 0 ≤ x.f1 ∧ x.f1 ≤ 15
    · rw [if_pos h1]
      by_cases h2 : 0 ≤ x.f2 ∧ x.f2 ≤ x.f3
      · rw [if_pos h2]
        by_cases h3 : x.f3 ≤ 6
        · rw [if_pos h3]
          by_cases h4 : 0 ≤ x.f4 ∧ x.f4 ≤ x.f5
          · rw [if_pos h4]
            congr 1
            apply decide_eq_decide.2
            omega
          · rw [if_neg h4]
            congr 1
            symm
            apply decide_eq_false
            omega
        · rw [if_neg h3]
          congr 1
          symm
          apply decide_eq_false
          omega
      · rw [if_neg h2]
        congr 1
        symm
        apply decide_eq_false
        omega
    · rw [if_neg h1]
      congr 1
      symm
      apply decide_eq_false
      omega
  · rw [if_neg h0]
    congr 1
    symm
    apply decide_eq_false
    omega
theorem spec_next (a x : S53) (ha : stepOk a = true) (hx : stepOk x = true) : spec_l22Next.f a.f0 a.f1 a.f2 a.f3 a.f4 a.f5 a.f6 x.f0 x.f1 x.f2 x.f3 x.f4 x.f5 x.f6 = some (nextOk a x) := by
  have ha := (stepOk_iff a).1 ha
  have hx := (stepOk_iff x).1 hx
  unfold spec_l22Next.f nextOk
  rw [w64 (show -9223372036854775808 ≤ a.f0 - x.f0 by omega) (by omega), w64 (show -9223372036854775808 ≤ a.f1 - x.f1 by omega) (by omega)]
  simp only [spec_in, Option.bind_some, decide_eq_true_eq]
  repeat' split
  all_goals first | (congr 1; apply decide_eq_decide.2; omega) | (congr 1; symm; apply decide_eq_false; omega)
def specPlace (l : List S53) (j : Nat) : Bool := stepOk (rd_T53 l (j : Int)) && (decide (j = 0) || decide (spec_l22Next.f (rd_T53 l ((j : Int) - 1)).f0 (rd_T53 l ((j : Int) - 1)).f1 (rd_T53 l ((j : Int) - 1)).f2 (rd_T53 l ((j : Int) - 1)).f3 (rd_T53 l ((j : Int) - 1)).f4 (rd_T53 l ((j : Int) - 1)).f5 (rd_T53 l ((j : Int) - 1)).f6 (rd_T53 l (j : Int)).f0 (rd_T53 l (j : Int)).f1 (rd_T53 l (j : Int)).f2 (rd_T53 l (j : Int)).f3 (rd_T53 l (j : Int)).f4 (rd_T53 l (j : Int)).f5 (rd_T53 l (j : Int)).f6 = some true))
theorem next_some (a0 a1 a2 a3 a4 a5 : Int) (a6 : Bool) (x0 x1 x2 x3 x4 x5 : Int) (x6 : Bool) : ∃ t, spec_l22Next.f a0 a1 a2 a3 a4 a5 a6 x0 x1 x2 x3 x4 x5 x6 = some t := by
  unfold spec_l22Next.f
  simp only [spec_in, Option.bind_some]
  repeat' split
  all_goals exact ⟨_, rfl⟩
theorem spec_places (l : List S53) : allN (specPlace l) l.length 0 = allN (placeOk l) l.length 0 := by
  refine allN_hist _ _ (fun j _ _ hh => ?_)
  unfold specPlace placeOk
  by_cases hs : stepOk (rd_T53 l (j : Int)) = true
  · rw [hs]
    by_cases h0 : j = 0
    · simp [h0]
    · have hp := hh (j - 1) (by omega) (by omega)
      unfold specPlace at hp
      rw [Bool.and_eq_true] at hp
      have hp := hp.1
      rw [show (((j - 1 : Nat) : Int)) = (j : Int) - 1 by omega] at hp
      rw [spec_next _ _ hp hs]
      simp
  · rw [Bool.eq_false_iff.2 hs]
    simp
theorem spec_pathOk (q s : Int) (l : List S53) (f b : Int) : Ev (fun k => spec_FlyPathOk.f k q s l f b) (pathOk q s l f b) := by
  unfold spec_FlyPathOk.f pathOk
  have bad : Ev (fun k => spec_FlyPathOk.j0 k true q s l f b) false := Ev.step (fun k => (by simp only [spec_FlyPathOk.j0]; exact if_pos trivial)) (Ev.val _)
  simp only [spec_kind, spec_in, Option.bind_some]
  by_cases h1 : kindOk q s = true
  · rw [h1]
    refine Ev.ite_pos rfl ?_
    by_cases h2 : 1 ≤ l.length ∧ l.length ≤ 40
    · rw [decide_eq_true h2]
      refine Ev.ite_pos (by rw [decide_eq_true_eq]; omega) ?_
      by_cases h3 : 0 ≤ f ∧ f ≤ b
      · refine Ev.ite_pos (by rw [decide_eq_true_eq]; exact h3) ?_
        refine Ev.succ ?_
        simp only [spec_FlyPathOk.j0]
        by_cases h4 : b > 10000
        · refine Ev.ite_pos (decide_eq_true h4) (Ev.cast (Ev.val _) ?_)
          have : winOk f b = false := decide_eq_false (by omega)
          rw [this]; rfl
        · refine Ev.ite_neg (by simpa using h4) ?_
          have : winOk f b = true := decide_eq_true (by omega)
          rw [this, ← spec_places]
          have key := find_loop (F := fun k i => spec_FlyPathOk.l0 k i q s l f b) l.length (fun j => !specPlace l j) (fun _ => false) true ?_ ?_ ?_ l.length 0 (by omega)
          · exact key
          · intro i hi hp
            refine Ev.step (fun k => ?_) (Ev.val _)
            simp only [spec_FlyPathOk.l0, if_pos (show (i : Int) < (l.length : Int) by omega), if_pos (show (0 : Int) ≤ i by omega), spec_step, Option.bind_some]
            unfold specPlace at hp
            by_cases hs : stepOk (rd_T53 l (i : Int)) = true
            · rw [hs] at hp ⊢
              rw [if_pos rfl]
              by_cases hi0 : i = 0
              · simp [hi0] at hp
              · rw [if_pos (show (i : Int) > 0 by omega), w64 (show -9223372036854775808 ≤ (i : Int) - 1 by omega) (by omega), if_pos (by omega), if_pos (by omega)]
                obtain ⟨t, ht⟩ := next_some (rd_T53 l ((i : Int) - 1)).f0 (rd_T53 l ((i : Int) - 1)).f1 (rd_T53 l ((i : Int) - 1)).f2 (rd_T53 l ((i : Int) - 1)).f3 (rd_T53 l ((i : Int) - 1)).f4 (rd_T53 l ((i : Int) - 1)).f5 (rd_T53 l ((i : Int) - 1)).f6 (rd_T53 l (i : Int)).f0 (rd_T53 l (i : Int)).f1 (rd_T53 l (i : Int)).f2 (rd_T53 l (i : Int)).f3 (rd_T53 l (i : Int)).f4 (rd_T53 l (i : Int)).f5 (rd_T53 l (i : Int)).f6
                rw [ht] at hp ⊢
                simp only [Option.bind_some]
                have : t = false := by simpa [hi0] using hp
                rw [this]
                rfl
            · rw [if_neg hs]
          · intro i hi hp r' hr
            refine Ev.step (fun k => ?_) hr
            simp only [spec_FlyPathOk.l0, if_pos (show (i : Int) < (l.length : Int) by omega), if_pos (show (0 : Int) ≤ i by omega), spec_step, Option.bind_some]
            unfold specPlace at hp
            by_cases hs : stepOk (rd_T53 l (i : Int)) = true
            · rw [hs] at hp ⊢
              rw [if_pos rfl]
              by_cases hi0 : i = 0
              · rw [if_neg (by omega), w64 (by omega) (by omega)]
              · rw [if_pos (show (i : Int) > 0 by omega), w64 (show -9223372036854775808 ≤ (i : Int) - 1 by omega) (by omega), if_pos (by omega), if_pos (by omega)]
                obtain ⟨t, ht⟩ := next_some (rd_T53 l ((i : Int) - 1)).f0 (rd_T53 l ((i : Int) - 1)).f1 (rd_T53 l ((i : Int) - 1)).f2 (rd_T53 l ((i : Int) - 1)).f3 (rd_T53 l ((i : Int) - 1)).f4 (rd_T53 l ((i : Int) - 1)).f5 (rd_T53 l ((i : Int) - 1)).f6 (rd_T53 l (i : Int)).f0 (rd_T53 l (i : Int)).f1 (rd_T53 l (i : Int)).f2 (rd_T53 l (i : Int)).f3 (rd_T53 l (i : Int)).f4 (rd_T53 l (i : Int)).f5 (rd_T53 l (i : Int)).f6
                rw [ht] at hp ⊢
                simp only [Option.bind_some]
                have : t = true := by simpa [hi0] using hp
                rw [this, if_pos rfl, w64 (by omega) (by omega)]
            · simp [hs] at hp
          · refine Ev.step (fun k => ?_) (Ev.val _)
            simp only [spec_FlyPathOk.l0]
            rw [if_neg (by omega)]
      · refine Ev.ite_neg (by rw [decide_eq_true_eq]; exact h3) (Ev.cast bad ?_)
        have : winOk f b = false := decide_eq_false (by omega)
        rw [this]; rfl
    · rw [decide_eq_false h2]
      exact Ev.ite_neg (by rw [decide_eq_true_eq]; omega) bad
  · rw [Bool.eq_false_iff.2 h1]
    exact Ev.ite_neg (by decide) bad
theorem impl_in (a b c : Int) : impl_within.f a b c = some (decide (b ≤ a ∧ a ≤ c)) := by
  unfold impl_within.f
  by_cases h : a ≥ b <;> simp [h]
theorem impl_kind (q s : Int) : impl_FlyKindOk.f q s = some (kindOk q s) := by
  unfold impl_FlyKindOk.f kindOk
  by_cases h1 : 1 ≤ q <;> by_cases h2 : q ≤ s <;> simp [h1, h2]
theorem impl_win (f b : Int) : impl_window.f f b = some (winOk f b) := by
  unfold impl_window.f winOk
  by_cases h1 : 0 ≤ f <;> by_cases h2 : f ≤ b <;> simp [h1, h2]
def distW (a b : Int) : Int := if a > b then wrap64 (a - b) else wrap64 (b - a)
theorem impl_distW (a b : Int) : impl_dist.f a b = some (distW a b) := by
  unfold impl_dist.f distW
  split <;> rfl
def nextW (a x : S53) : Bool := decide ((a.f0 = x.f0 → a.f1 ≠ x.f1) ∧ distW a.f0 x.f0 ≤ 1 ∧ distW a.f1 x.f1 ≤ 1 ∧ a.f2 ≤ x.f3 ∧ x.f2 ≤ a.f3)
theorem nextW_eq (a x : S53) (ha : stepOk a = true) (hx : stepOk x = true) : nextW a x = nextOk a x := by
  have ha := (stepOk_iff a).1 ha
  have hx := (stepOk_iff x).1 hx
  unfold nextW nextOk
  have d : ∀ p r : Int, 0 ≤ p → p ≤ 15 → 0 ≤ r → r ≤ 15 → (distW p r ≤ 1 ↔ -1 ≤ p - r ∧ p - r ≤ 1) := by
    intro p r _ _ _ _
    unfold distW
    by_cases h : p > r
    · rw [if_pos h, w64 (by omega) (by omega)]; omega
    · rw [if_neg h, w64 (by omega) (by omega)]; omega
  have d0 := d a.f0 x.f0 (by omega) (by omega) (by omega) (by omega)
  have d1 := d a.f1 x.f1 (by omega) (by omega) (by omega) (by omega)
  apply decide_eq_decide.2
  rw [d0, d1]
  omega
def implPlace (l : List S53) (j : Nat) : Bool := stepOk (rd_T53 l (j : Int)) && (decide (j = 0) || nextW (rd_T53 l ((j : Int) - 1)) (rd_T53 l (j : Int)))
theorem impl_places (l : List S53) : allN (implPlace l) l.length 0 = allN (placeOk l) l.length 0 := by
  refine allN_hist _ _ (fun j _ _ hh => ?_)
  unfold implPlace placeOk
  by_cases hs : stepOk (rd_T53 l (j : Int)) = true
  · rw [hs]
    by_cases h0 : j = 0
    · simp [h0]
    · have hp := hh (j - 1) (by omega) (by omega)
      unfold implPlace at hp
      rw [Bool.and_eq_true] at hp
      have hp := hp.1
      rw [show (((j - 1 : Nat) : Int)) = (j : Int) - 1 by omega] at hp
      rw [nextW_eq _ _ hp hs]
  · rw [Bool.eq_false_iff.2 hs]
    simp
theorem impl_round (q s : Int) (l : List S53) (f b : Int) (i : Nat) (hi : i < l.length) (k : Nat) : impl_FlyPathOk.l0 (k + 1) l (l.length : Int) i q s l f b =
    impl_FlyPathOk.j2 k i l (l.length : Int) i (!stepOk (rd_T53 l (i : Int))) q s l f b (rd_T53 l (i : Int)).f0 (rd_T53 l (i : Int)).f1 (rd_T53 l (i : Int)).f2 (rd_T53 l (i : Int)).f3 (rd_T53 l (i : Int)).f4 (rd_T53 l (i : Int)).f5 (rd_T53 l (i : Int)).f6 := by
  simp only [impl_FlyPathOk.l0, if_pos (show (i : Int) < (l.length : Int) by omega), if_pos (show (0 : Int) ≤ i by omega), impl_in, impl_win, Option.bind_some, decide_eq_true_eq]
  generalize rd_T53 l (i : Int) = x
  have e : ∀ c : Bool, c = stepOk x → ∀ {α : Type} (g : Bool → α), g (!c) = g (!stepOk x) := fun c h α g => by rw [h]
  by_cases h0 : 0 ≤ x.f0 ∧ x.f0 ≤ 15
  · rw [if_pos h0]
    by_cases h1 : 0 ≤ x.f1 ∧ x.f1 ≤ 15
    · rw [if_pos h1]
      by_cases h2 : 0 ≤ x.f2
      · rw [if_pos h2]
        by_cases h3 : x.f2 ≤ x.f3
        · rw [if_pos h3]
          by_cases h4 : x.f3 ≤ 6
          · rw [if_pos h4]
            have : winOk x.f4 x.f5 = stepOk x := by
              unfold winOk stepOk
              apply decide_eq_decide.2
              omega
            rw [this]
          · rw [if_neg h4, show stepOk x = false from decide_eq_false (by omega)]; rfl
        · rw [if_neg h3, show stepOk x = false from decide_eq_false (by omega)]; rfl
      · rw [if_neg h2, show stepOk x = false from decide_eq_false (by omega)]; rfl
    · rw [if_neg h1, show stepOk x = false from decide_eq_false (by omega)]; rfl
  · rw [if_neg h0, show stepOk x = false from decide_eq_false (by omega)]; rfl
theorem impl_second (q s : Int) (l : List S53) (f b : Int) (i : Nat) (hi : i < l.length) (h0 : i ≠ 0) (x : S53) (k : Nat) (hl : l.length ≤ 40) : impl_FlyPathOk.j2 (k + 1) i l (l.length : Int) i false q s l f b x.f0 x.f1 x.f2 x.f3 x.f4 x.f5 x.f6 =
    if nextW (rd_T53 l ((i : Int) - 1)) x = true then impl_FlyPathOk.l0 k l (l.length : Int) ((i : Int) + 1) q s l f b else some false := by
  simp only [impl_FlyPathOk.j2, impl_distW, Option.bind_some]
  rw [if_neg (show ¬ (false = true) by decide), if_neg (show ¬ (i : Int) = 0 by omega), w64 (show -9223372036854775808 ≤ (i : Int) - 1 by omega) (by omega), if_pos (by omega), if_pos (by omega), w64 (show -9223372036854775808 ≤ (i : Int) + 1 by omega) (by omega)]
  generalize rd_T53 l ((i : Int) - 1) = a
  generalize impl_FlyPathOk.l0 k l (l.length : Int) ((i : Int) + 1) q s l f b = r
  unfold nextW
  simp only [decide_eq_true_eq]
  by_cases c0 : a.f0 = x.f0
  · rw [if_pos c0]
    by_cases c1 : a.f1 = x.f1
    · rw [if_pos c1, if_neg (fun h => h.1 c0 c1)]
    · rw [if_neg c1]
      repeat' split
      all_goals first | rfl | (exfalso; omega)
  · rw [if_neg c0]
    repeat' split
    all_goals first | rfl | (exfalso; omega)
theorem impl_pathOk (q s : Int) (l : List S53) (f b : Int) : Ev (fun k => impl_FlyPathOk.f k q s l f b) (pathOk q s l f b) := by
  unfold impl_FlyPathOk.f pathOk
  have bad : Ev (fun k => impl_FlyPathOk.j0 k true q s l f b) false := Ev.step (fun k => (by simp only [impl_FlyPathOk.j0]; exact if_pos trivial)) (Ev.val _)
  simp only [impl_kind, impl_in, impl_win, Option.bind_some]
  by_cases h1 : kindOk q s = true
  · rw [h1]
    refine Ev.ite_pos rfl ?_
    by_cases h2 : 1 ≤ l.length ∧ l.length ≤ 40
    · rw [decide_eq_true h2]
      refine Ev.ite_pos (by rw [decide_eq_true_eq]; omega) ?_
      refine Ev.succ ?_
      simp only [impl_FlyPathOk.j0]
      by_cases h3 : winOk f b = true
      · rw [h3, ← impl_places]
        refine Ev.ite_neg (by decide) ?_
        have key := find_loop (F := fun k i => impl_FlyPathOk.l0 k l (l.length : Int) i q s l f b) l.length (fun j => !implPlace l j) (fun _ => false) true ?_ ?_ ?_ l.length 0 (by omega)
        · exact key
        · intro i hi hp
          refine Ev.step (impl_round q s l f b i hi) ?_
          unfold implPlace at hp
          refine Ev.succ ?_
          by_cases hs : stepOk (rd_T53 l (i : Int)) = true
          · rw [hs] at hp ⊢
            by_cases hi0 : i = 0
            · simp [hi0] at hp
            · refine Ev.congr (fun k => impl_second q s l f b i hi hi0 _ k h2.2) ?_
              refine Ev.ite_neg ?_ (Ev.val _)
              simpa [hi0] using hp
          · rw [Bool.eq_false_iff.2 hs]
            simp only [impl_FlyPathOk.j2]
            exact Ev.ite_pos rfl (Ev.val _)
        · intro i hi hp r' hr
          refine Ev.step (impl_round q s l f b i hi) ?_
          unfold implPlace at hp
          refine Ev.succ ?_
          by_cases hs : stepOk (rd_T53 l (i : Int)) = true
          · rw [hs] at hp ⊢
            by_cases hi0 : i = 0
            · subst hi0
              simp only [impl_FlyPathOk.j2]
              refine Ev.ite_neg (by decide) (Ev.ite_pos rfl ?_)
              rw [w64 (by omega) (by omega)]
              exact hr
            · refine Ev.congr (fun k => impl_second q s l f b i hi hi0 _ k h2.2) ?_
              refine Ev.ite_pos ?_ hr
              simpa [hi0] using hp
          · simp [hs] at hp
        · refine Ev.step (fun k => ?_) (Ev.val _)
          simp only [impl_FlyPathOk.l0]
          rw [if_neg (by omega)]
      · rw [Bool.eq_false_iff.2 h3]
        exact Ev.ite_pos rfl (Ev.val _)
    · rw [decide_eq_false h2]
      exact Ev.ite_neg (by rw [decide_eq_true_eq]; omega) bad
  · rw [Bool.eq_false_iff.2 h1]
    exact Ev.ite_neg (by decide) bad
theorem spec_low (q s : Int) (l : List S53) (f b : Int) (i : Int) (h : 0 ≤ i) : spec_l23Low.f q s l f b i = some (loAt l f i) := by
  unfold spec_l23Low.f loAt
  by_cases hi : i < (l.length : Int)
  · rw [if_pos hi, if_pos h, if_pos hi]
  · rw [if_neg hi, if_neg hi]
theorem spec_high (q s : Int) (l : List S53) (f b : Int) (i : Int) (h : 0 ≤ i) : spec_l23High.f q s l f b i = some (hiAt l b i) := by
  unfold spec_l23High.f hiAt
  by_cases hi : i < (l.length : Int)
  · rw [if_pos hi, if_pos h, if_pos hi]
  · rw [if_neg hi, if_neg hi]
def mostAt (s : Int) (l : List S53) (i : Int) : Int := if (rd_T53 l i).f6 = true then 10000 else s
theorem spec_most (q s : Int) (l : List S53) (f b : Int) (i : Int) (h : 0 ≤ i) (hi : i < (l.length : Int)) : spec_l23Most.f q s l f b i = some (mostAt s l i) := by
  unfold spec_l23Most.f mostAt
  rw [if_pos h, if_pos hi]
  split <;> rfl
theorem impl_bound (q s : Int) (l : List S53) (f b : Int) (i : Int) (h : 0 ≤ i) (hi : i ≤ (l.length : Int)) : impl_FlyPath_bound.f q s l f b i = some (loAt l f i, hiAt l b i) := by
  unfold impl_FlyPath_bound.f loAt hiAt
  by_cases e : i = (l.length : Int)
  · rw [if_pos e, if_neg (by omega), if_neg (by omega)]
  · rw [if_neg e, if_pos h, if_pos (by omega), if_pos (by omega), if_pos (by omega)]
/-! #### spans: forward, then back -/
section
variable (w : Int → Int) (A B : Nat → Int) (q s : Int) (h : Nat → Bool) (n : Nat)
def fwdL : Nat → Int
  | 0 => A 0
  | k + 1 => max (A (k + 1)) (w (fwdL k + q))
def fwdH : Nat → Int
  | 0 => B 0
  | k + 1 => if h k = true then B (k + 1) else min (B (k + 1)) (w (fwdH k + s))
/-- d places ahead of the last one. -/
def bwdL : Nat → Int
  | 0 => fwdL w A q n
  | d + 1 => if h (n - (d + 1)) = true then fwdL w A q (n - (d + 1)) else max (fwdL w A q (n - (d + 1))) (w (bwdL d - s))
def bwdH : Nat → Int
  | 0 => fwdH w B s h n
  | d + 1 => min (fwdH w B s h (n - (d + 1))) (w (bwdH d - q))
def spanL (k : Nat) : Int := bwdL w A q s h n (n - k)
def spanH (k : Nat) : Int := bwdH w B q s h n (n - k)
theorem spanL_last : spanL w A q s h n n = fwdL w A q n := by unfold spanL; rw [Nat.sub_self]; rfl
theorem spanH_last : spanH w B q s h n n = fwdH w B s h n := by unfold spanH; rw [Nat.sub_self]; rfl
theorem spanL_step (k : Nat) (hk : k < n) : spanL w A q s h n k = if h k = true then fwdL w A q k else max (fwdL w A q k) (w (spanL w A q s h n (k + 1) - s)) := by
  unfold spanL
  obtain ⟨d, hd⟩ : ∃ d, n - (k + 1) = d := ⟨_, rfl⟩
  rw [hd, show n - k = d + 1 by omega]
  simp only [bwdL]
  rw [show n - (d + 1) = k by omega]
theorem spanH_step (k : Nat) (hk : k < n) : spanH w B q s h n k = min (fwdH w B s h k) (w (spanH w B q s h n (k + 1) - q)) := by
  unfold spanH
  obtain ⟨d, hd⟩ : ∃ d, n - (k + 1) = d := ⟨_, rfl⟩
  rw [hd, show n - k = d + 1 by omega]
  simp only [bwdH]
  rw [show n - (d + 1) = k by omega]
theorem fwdL_ge (k : Nat) : A k ≤ fwdL w A q k := by
  cases k with
  | zero => exact Int.le_refl _
  | succ k => simp only [fwdL]; omega
theorem fwdH_le (k : Nat) : fwdH w B s h k ≤ B k := by
  cases k with
  | zero => exact Int.le_refl _
  | succ k =>
    simp only [fwdH]
    split <;> omega
theorem spanL_ge (k : Nat) (hk : k ≤ n) : fwdL w A q k ≤ spanL w A q s h n k := by
  rcases Nat.lt_or_ge k n with hlt | hge
  · rw [spanL_step w A q s h n k hlt]
    split <;> omega
  · rw [show k = n by omega, spanL_last]
    exact Int.le_refl _
theorem spanH_le (k : Nat) (hk : k ≤ n) : spanH w B q s h n k ≤ fwdH w B s h k := by
  rcases Nat.lt_or_ge k n with hlt | hge
  · rw [spanH_step w B q s h n k hlt]
    omega
  · rw [show k = n by omega, spanH_last]
    exact Int.le_refl _
end
abbrev idw (x : Int) : Int := x
/-- A row told place by place. -/
def tab {α : Type} (n : Nat) (g : Nat → α) : List α := (List.range n).map g
theorem tab_length {α : Type} (n : Nat) (g : Nat → α) : (tab n g).length = n := by simp [tab]
theorem tab_get {α : Type} (n : Nat) (g : Nat → α) (i : Nat) (hi : i < n) : (tab n g)[i]? = some (g i) := by simp [tab, hi]
theorem tab_rd (n : Nat) (g : Nat → S55) (i : Nat) (hi : i < n) : rd_T55 (tab n g) (i : Int) = g i := by
  show (tab n g).getD ((i : Int)).toNat _ = g i
  rw [Int.toNat_natCast, List.getD_eq_getElem?_getD, tab_get n g i hi]; rfl
theorem tab_congr {α : Type} (n : Nat) (g g' : Nat → α) (hg : ∀ j, j < n → g j = g' j) : tab n g = tab n g' := by
  apply List.ext_getElem?
  intro j
  rcases Nat.lt_or_ge j n with hj | hj
  · rw [tab_get n g j hj, tab_get n g' j hj, hg j hj]
  · rw [List.getElem?_eq_none (by rw [tab_length]; omega), List.getElem?_eq_none (by rw [tab_length]; omega)]
theorem tab_set {α : Type} (n : Nat) (g : Nat → α) (i : Nat) (v : α) (hi : i < n) : (tab n g).set i v = tab n (fun j => if j = i then v else g j) := by
  apply List.ext_getElem?
  intro j
  rcases Nat.lt_or_ge j n with hj | hj
  · rw [tab_get n _ j hj]
    by_cases e : j = i
    · subst e
      rw [List.getElem?_set_self (by rw [tab_length]; omega), if_pos rfl]
    · rw [List.getElem?_set_ne (Ne.symm e), tab_get n g j hj, if_neg e]
  · rw [List.getElem?_eq_none (by rw [List.length_set, tab_length]; omega), List.getElem?_eq_none (by rw [tab_length]; omega)]
theorem tab_snoc {α : Type} (n : Nat) (g : Nat → α) : tab n g ++ [g n] = tab (n + 1) g := by simp [tab, List.range_succ]
def spansOk (w : Int → Int) (A B : Nat → Int) (q s : Int) (h : Nat → Bool) (n : Nat) : Bool := allN (fun k => decide (spanL w A q s h n k ≤ spanH w B q s h n k)) (n + 1) 0
def spansR (w : Int → Int) (A B : Nat → Int) (q s : Int) (h : Nat → Bool) (n : Nat) : List S55 × Bool :=
  if spansOk w A B q s h n = true then (tab (n + 1) (fun k => (⟨spanL w A q s h n k, spanH w B q s h n k⟩ : S55)), true) else ([], false)
theorem spansOk_iff (w : Int → Int) (A B : Nat → Int) (q s : Int) (h : Nat → Bool) (n : Nat) : spansOk w A B q s h n = true ↔ ∀ k, k ≤ n → spanL w A q s h n k ≤ spanH w B q s h n k := by
  unfold spansOk
  rw [allN_iff]
  exact ⟨fun hh k hk => of_decide_eq_true (hh k (by omega) (by omega)), fun hh k _ hk => decide_eq_true (hh k (by omega))⟩
/-- Windows of which none is empty, within the ticks: nothing wraps. -/
theorem spans_wrap (A B : Nat → Int) (q s : Int) (h : Nat → Bool) (n : Nat) (hn : n ≤ 40) (hq : 1 ≤ q ∧ q ≤ s ∧ s ≤ 50) (hw : ∀ k, k ≤ n → 0 ≤ A k ∧ A k ≤ B k ∧ B k ≤ 10000) :
    ∀ k, k ≤ n → spanL wrap64 A q s h n k = spanL idw A q s h n k ∧ spanH wrap64 B q s h n k = spanH idw B q s h n k := by
  have fL : ∀ k, k ≤ n → fwdL wrap64 A q k = fwdL idw A q k ∧ 0 ≤ fwdL idw A q k ∧ fwdL idw A q k ≤ 10000 + 50 * (k : Int) := by
    intro k
    induction k with
    | zero => intro hk; have := hw 0 hk; simp only [fwdL]; exact ⟨by trivial, by omega, by omega⟩
    | succ k ih =>
      intro hk
      obtain ⟨h1, h2, h3⟩ := ih (by omega)
      have := hw (k + 1) hk
      simp only [fwdL, h1, idw]
      rw [w64 (by omega) (by omega)]
      exact ⟨rfl, by omega, by omega⟩
  have fH : ∀ k, k ≤ n → fwdH wrap64 B s h k = fwdH idw B s h k ∧ 0 ≤ fwdH idw B s h k ∧ fwdH idw B s h k ≤ 10000 := by
    intro k
    induction k with
    | zero => intro hk; have := hw 0 hk; simp only [fwdH]; exact ⟨by trivial, by omega, by omega⟩
    | succ k ih =>
      intro hk
      obtain ⟨h1, h2, h3⟩ := ih (by omega)
      have := hw (k + 1) hk
      simp only [fwdH, h1, idw]
      rw [w64 (by omega) (by omega)]
      exact ⟨rfl, by split <;> omega, by split <;> omega⟩
  have bL : ∀ d, d ≤ n → bwdL wrap64 A q s h n d = bwdL idw A q s h n d ∧ 0 ≤ bwdL idw A q s h n d ∧ bwdL idw A q s h n d ≤ 12000 := by
    intro d
    induction d with
    | zero => intro hd; have := fL n (Nat.le_refl _); simp only [bwdL]; exact ⟨this.1, this.2.1, by omega⟩
    | succ d ih =>
      intro hd
      obtain ⟨h1, h2, h3⟩ := ih (by omega)
      have := fL (n - (d + 1)) (by omega)
      simp only [bwdL, h1, this.1, idw]
      rw [w64 (by omega) (by omega)]
      exact ⟨rfl, by split <;> omega, by split <;> omega⟩
  have bH : ∀ d, d ≤ n → bwdH wrap64 B q s h n d = bwdH idw B q s h n d ∧ -50 * (d : Int) ≤ bwdH idw B q s h n d ∧ bwdH idw B q s h n d ≤ 10000 := by
    intro d
    induction d with
    | zero => intro hd; have := fH n (Nat.le_refl _); simp only [bwdH]; exact ⟨this.1, by omega, by omega⟩
    | succ d ih =>
      intro hd
      obtain ⟨h1, h2, h3⟩ := ih (by omega)
      have := fH (n - (d + 1)) (by omega)
      simp only [bwdH, h1, this.1, idw]
      rw [w64 (by omega) (by omega)]
      exact ⟨rfl, by omega, by omega⟩
  exact fun k hk => ⟨(bL (n - k) (by omega)).1, (bH (n - k) (by omega)).1⟩
theorem spansR_wrap (A B : Nat → Int) (q s : Int) (h : Nat → Bool) (n : Nat) (hn : n ≤ 40) (hq : 1 ≤ q ∧ q ≤ s ∧ s ≤ 50) (hA : ∀ k, k ≤ n → 0 ≤ A k) (hB : ∀ k, k ≤ n → B k ≤ 10000) : spansR wrap64 A B q s h n = spansR idw A B q s h n := by
  by_cases hbad : ∃ k, k ≤ n ∧ B k < A k
  · obtain ⟨k, hk, hlt⟩ := hbad
    have no : ∀ w : Int → Int, spansOk w A B q s h n = false := by
      intro w
      refine Bool.eq_false_iff.2 (fun hok => ?_)
      have := (spansOk_iff w A B q s h n).1 hok k hk
      have h1 := fwdL_ge w A q k
      have h2 := fwdH_le w B s h k
      have h3 := spanL_ge w A q s h n k hk
      have h4 := spanH_le w B q s h n k hk
      omega
    unfold spansR
    rw [no wrap64, no idw]
    simp only [Bool.false_eq_true, if_false]
  · have hw : ∀ k, k ≤ n → 0 ≤ A k ∧ A k ≤ B k ∧ B k ≤ 10000 := fun k hk => ⟨hA k hk, Int.not_lt.1 (fun hlt => hbad ⟨k, hk, hlt⟩), hB k hk⟩
    have e := spans_wrap A B q s h n hn hq hw
    have e2 : spansOk wrap64 A B q s h n = spansOk idw A B q s h n := by
      apply Bool.eq_iff_iff.2
      rw [spansOk_iff, spansOk_iff]
      exact ⟨fun hh k hk => by rw [← (e k hk).1, ← (e k hk).2]; exact hh k hk, fun hh k hk => by rw [(e k hk).1, (e k hk).2]; exact hh k hk⟩
    unfold spansR
    rw [e2, tab_congr (n + 1) _ (fun k => (⟨spanL idw A q s h n k, spanH idw B q s h n k⟩ : S55)) (fun j hj => by rw [(e j (by omega)).1, (e j (by omega)).2])]
def holdAt (l : List S53) (k : Nat) : Bool := (rd_T53 l (k : Int)).f6
theorem spec_max (a b : Int) : spec_l21Max.f a b = some (max a b) := by
  unfold spec_l21Max.f
  by_cases h : a > b
  · rw [if_pos h]; congr 1; omega
  · rw [if_neg h]; congr 1; omega
theorem spec_min (a b : Int) : spec_l21Min.f a b = some (min a b) := by
  unfold spec_l21Min.f
  by_cases h : a < b
  · rw [if_pos h]; congr 1; omega
  · rw [if_neg h]; congr 1; omega
theorem spec_spans (q s : Int) (l : List S53) (f b : Int) (hq : 1 ≤ q ∧ q ≤ s ∧ s ≤ 50) (hn : l.length ≤ 40)
    (hA : ∀ k : Nat, k ≤ l.length → 0 ≤ loAt l f k ∧ loAt l f k ≤ 9223372036854775807) (hB : ∀ k : Nat, k ≤ l.length → -9223372036854775808 ≤ hiAt l b k ∧ hiAt l b k ≤ 10000) :
    Ev (fun k => spec_l24Spans.f k q s l f b) (spansR idw (fun k => loAt l f k) (fun k => hiAt l b k) q s (holdAt l) l.length) := by
  -- the second loop, from i on downwards
  obtain ⟨n, hnl⟩ : ∃ n, n = l.length := ⟨_, rfl⟩
  rw [← hnl] at hn hA hB ⊢
  obtain ⟨A, hAd⟩ : ∃ A : Nat → Int, A = fun k : Nat => loAt l f (k : Int) := ⟨_, rfl⟩
  obtain ⟨B, hBd⟩ : ∃ B : Nat → Int, B = fun k : Nat => hiAt l b (k : Int) := ⟨_, rfl⟩
  have hA' : ∀ k, k ≤ n → 0 ≤ A k ∧ A k ≤ 9223372036854775807 := fun k hk => by rw [hAd]; exact hA k hk
  have hB' : ∀ k, k ≤ n → -9223372036854775808 ≤ B k ∧ B k ≤ 10000 := fun k hk => by rw [hBd]; exact hB k hk
  have hlo : ∀ i : Nat, spec_l23Low.f q s l f b (i : Int) = some (A i) := fun i => by rw [hAd]; exact spec_low q s l f b i (by omega)
  have hhi : ∀ i : Nat, spec_l23High.f q s l f b (i : Int) = some (B i) := fun i => by rw [hBd]; exact spec_high q s l f b i (by omega)
  rw [show (fun k : Nat => loAt l f (k : Int)) = A from hAd.symm, show (fun k : Nat => hiAt l b (k : Int)) = B from hBd.symm]
  have most : ∀ i : Nat, i < n → spec_l23Most.f q s l f b (i : Int) = some (if holdAt l i = true then 10000 else s) := fun i hi => by rw [spec_most q s l f b i (by omega) (by omega)]; rfl
  clear hA hB hAd hBd
  obtain ⟨h, hh⟩ : ∃ h, h = holdAt l := ⟨_, rfl⟩
  rw [← hh] at most ⊢
  have fail : ∀ k, k ≤ n → spanH idw B q s h n k < spanL idw A q s h n k → spansR idw A B q s h n = ([], false) := by
    intro k hk hlt
    unfold spansR
    rw [if_neg (fun hok => by have := (spansOk_iff idw A B q s h n).1 hok k hk; omega)]
  -- back
  have back : (∀ k, k ≤ n → fwdL idw A q k ≤ fwdH idw B s h k) → ∀ i, i ≤ n → (∀ k, i ≤ k → k ≤ n → spanL idw A q s h n k ≤ spanH idw B q s h n k) →
      Ev (fun k => spec_l24Spans.l1 k (tab (n + 1) (fun j => if i ≤ j then (⟨spanL idw A q s h n j, spanH idw B q s h n j⟩ : S55) else ⟨fwdL idw A q j, fwdH idw B s h j⟩)) ((i : Int) - 1) q s l f b) (spansR idw A B q s h n) := by
    intro hall i
    induction i with
    | zero =>
      intro hi hok
      refine Ev.step (fun k => ?_) (Ev.val _)
      simp only [spec_l24Spans.l1]
      rw [if_neg (by omega)]
      unfold spansR
      rw [if_pos ((spansOk_iff idw A B q s h n).2 (fun k hk => hok k (Nat.zero_le _) hk))]
      congr 2
    | succ i ih =>
      intro hi hok
      have r1 := hok (i + 1) (by omega) (by omega)
      have r2 := spanL_ge idw A q s h n (i + 1) (by omega)
      have r3 := spanH_le idw B q s h n (i + 1) (by omega)
      have r4 := fwdL_ge idw A q (i + 1)
      have r5 := fwdH_le idw B s h (i + 1)
      have r6 := hA' (i + 1) (by omega)
      have r7 := hB' (i + 1) (by omega)
      have r8 := fwdL_ge idw A q i
      have r9 := fwdH_le idw B s h i
      have r10 := hA' i (by omega)
      have r11 := hB' i (by omega)
      have r12 := hall i (by omega)
      have eL : max (fwdL idw A q i) (spanL idw A q s h n (i + 1) - (if h i = true then 10000 else s)) = spanL idw A q s h n i := by
        rw [spanL_step idw A q s h n i (by omega)]
        simp only [idw]
        split <;> omega
      have eH : min (fwdH idw B s h i) (spanH idw B q s h n (i + 1) - q) = spanH idw B q s h n i := by
        rw [spanH_step idw B q s h n i (by omega)]
      refine Ev.succ ?_
      simp only [spec_l24Spans.l1, show (((i + 1 : Nat) : Int)) - 1 = (i : Int) by omega]
      rw [w64 (show -9223372036854775808 ≤ (i : Int) + 1 by omega) (by omega)]
      simp only [tab_length, most i (by omega), Option.bind_some]
      rw [show ((i : Int) + 1) = (((i + 1 : Nat)) : Int) by omega]
      rw [tab_rd (n + 1) _ i (by omega), tab_rd (n + 1) _ (i + 1) (by omega), if_neg (show ¬ i + 1 ≤ i by omega), if_pos (Nat.le_refl (i + 1))]
      have b1 : -9223372036854775808 ≤ spanL idw A q s h n (i + 1) - (if h i = true then 10000 else s) := by split <;> omega
      have b2 : spanL idw A q s h n (i + 1) - (if h i = true then 10000 else s) ≤ 9223372036854775807 := by split <;> omega
      rw [w64 b1 b2, spec_max, eL]
      simp only [Option.bind_some, Int.toNat_natCast]
      rw [tab_set (n + 1) _ i _ (by omega), tab_rd (n + 1) _ i (by omega), tab_rd (n + 1) _ (i + 1) (by omega), if_pos rfl, if_neg (show ¬ i + 1 = i by omega), if_pos (Nat.le_refl (i + 1))]
      simp only [spec_min]
      rw [w64 (show -9223372036854775808 ≤ spanH idw B q s h n (i + 1) - q by omega) (by omega), eH]
      simp only [Option.bind_some]
      rw [tab_set (n + 1) _ i _ (by omega), tab_rd (n + 1) _ i (by omega), if_pos rfl]
      refine Ev.ite_pos (by omega) (Ev.ite_pos (by omega) (Ev.ite_pos (by omega) (Ev.ite_pos (by omega) (Ev.ite_pos (by omega) ?_))))
      by_cases hlt : spanL idw A q s h n i > spanH idw B q s h n i
      · refine Ev.ite_pos hlt (Ev.cast (Ev.val _) ?_)
        exact (fail i (by omega) hlt).symm
      · refine Ev.ite_neg hlt ?_
        rw [w64 (by omega) (by omega)]
        have := ih (by omega) (fun k hk hkn => by
          rcases Nat.lt_or_ge i k with h1 | h1
          · exact hok k h1 hkn
          · rw [show k = i by omega]; omega)
        rw [tab_congr (n + 1) _ (fun j => if i ≤ j then (⟨spanL idw A q s h n j, spanH idw B q s h n j⟩ : S55) else ⟨fwdL idw A q j, fwdH idw B s h j⟩) (fun j hj => by
          by_cases e : j = i
          · rw [if_pos e, if_pos (by omega), e]
          · rw [if_neg e, if_neg e]
            by_cases e2 : i + 1 ≤ j
            · rw [if_pos e2, if_pos (by omega)]
            · rw [if_neg e2, if_neg (by omega)])]
        exact this
  -- forward
  have forth : ∀ (d i : Nat), i + d = n + 1 → (∀ k, k < i → fwdL idw A q k ≤ fwdH idw B s h k) → Ev (fun k => spec_l24Spans.l0 k (tab i (fun j => (⟨fwdL idw A q j, fwdH idw B s h j⟩ : S55))) (l.length : Int) i q s l f b) (spansR idw A B q s h n) := by
    intro d
    induction d with
    | zero =>
      intro i hi hall
      refine Ev.succ ?_
      simp only [spec_l24Spans.l0]
      refine Ev.ite_neg (by omega) ?_
      by_cases hlast : spanL idw A q s h n n ≤ spanH idw B q s h n n
      · have := back (fun k hk => hall k (by omega)) n (Nat.le_refl _) (fun k h1 h2 => by rw [show k = n by omega]; exact hlast)
        rw [w64 (by omega) (by omega), ← hnl]
        rw [show i = n + 1 by omega]
        rw [tab_congr (n + 1) _ (fun j => if n ≤ j then (⟨spanL idw A q s h n j, spanH idw B q s h n j⟩ : S55) else ⟨fwdL idw A q j, fwdH idw B s h j⟩) (fun j hj => by
          by_cases e : n ≤ j
          · rw [if_pos e, show j = n by omega, spanL_last, spanH_last]
          · rw [if_neg e])]
        exact this
      · rw [spanL_last, spanH_last] at hlast
        exact absurd (hall n (by omega)) hlast
    | succ d ih =>
      intro i hi hall
      refine Ev.succ ?_
      simp only [spec_l24Spans.l0, hlo, hhi, Option.bind_some, tab_length]
      refine Ev.ite_pos (by omega) ?_
      have next : ∀ (lo hi' : Int), lo = fwdL idw A q i → hi' = fwdH idw B s h i → Ev (fun k => if lo > hi' then (some (([] : List S55), false)) else (if i < 8796093022208 then (spec_l24Spans.l0 k (tab i (fun j => (⟨fwdL idw A q j, fwdH idw B s h j⟩ : S55)) ++ [(⟨lo, hi'⟩ : S55)]) (l.length : Int) (wrap64 ((i : Int) + 1)) q s l f b) else none)) (spansR idw A B q s h n) := by
        rintro lo hi' rfl rfl
        by_cases hlt : fwdL idw A q i > fwdH idw B s h i
        · refine Ev.ite_pos hlt (Ev.cast (Ev.val _) ?_)
          have r1 := spanL_ge idw A q s h n i (by omega)
          have r2 := spanH_le idw B q s h n i (by omega)
          exact (fail i (by omega) (by omega)).symm
        · refine Ev.ite_neg hlt (Ev.ite_pos (by omega) ?_)
          have := ih (i + 1) (by omega) (fun k hk => by
            rcases Nat.lt_or_ge k i with h1 | h1
            · exact hall k h1
            · rw [show k = i by omega]; omega)
          rw [← tab_snoc] at this
          rw [w64 (by omega) (by omega)]
          rw [show (((i + 1 : Nat)) : Int) = (i : Int) + 1 by omega] at this
          exact this
      cases i with
      | zero =>
        refine Ev.ite_neg (by decide) ?_
        exact next _ _ rfl rfl
      | succ i =>
        have r1 := hall i (by omega)
        have r2 := fwdL_ge idw A q i
        have r3 := fwdH_le idw B s h i
        have r4 := hA' i (by omega)
        have r5 := hB' i (by omega)
        have r6 := hA' (i + 1) (by omega)
        have r7 := hB' (i + 1) (by omega)
        refine Ev.ite_pos (by omega) ?_
        rw [show (((i + 1 : Nat)) : Int) - 1 = (i : Int) by omega, w64 (show -9223372036854775808 ≤ (i : Int) by omega) (by omega)]
        simp only [most i (by omega), Option.bind_some]
        rw [tab_rd (i + 1) _ i (by omega)]
        rw [w64 (show -9223372036854775808 ≤ fwdL idw A q i + q by omega) (by omega), spec_max]
        have b1 : -9223372036854775808 ≤ fwdH idw B s h i + (if h i = true then 10000 else s) := by split <;> omega
        have b2 : fwdH idw B s h i + (if h i = true then 10000 else s) ≤ 9223372036854775807 := by split <;> omega
        rw [w64 b1 b2]
        simp only [spec_min, Option.bind_some]
        refine Ev.ite_pos (by omega) (Ev.ite_pos (by omega) ?_)
        refine next _ _ ?_ ?_
        · simp only [fwdL, idw]
        · simp only [fwdH, idw]
          split <;> omega
  have := forth (n + 1) 0 (by omega) (fun k hk => by omega)
  unfold spec_l24Spans.f
  exact this
theorem findN_same {ρ : Type} (P : Nat → Bool) (r0 r : ρ) : ∀ d i, allN P d i = false → findN (fun j => !P j) (fun _ => r0) r d i = r0
  | 0, _, h => by simp [allN, findN] at h
  | d + 1, i, h => by
    simp only [allN, findN] at h ⊢
    by_cases hp : (!P i) = true
    · rw [if_pos hp]
    · rw [if_neg hp] at h ⊢
      exact findN_same P r0 r d (i + 1) h
theorem mx_eq (a b : Int) : mx a b = max a b := by
  unfold mx
  split <;> omega
theorem mn_eq (a b : Int) : mn a b = min a b := by
  unfold mn
  split <;> omega
def begA (l : List S53) (f : Int) (b : List Int) (k : Nat) : Int := if k < b.length then max (loAt l f k) (rd b (k : Int)) else loAt l f k
def begB (l : List S53) (f : Int) (b : List Int) (k : Nat) : Int := if k < b.length then min (hiAt l f k) (rd b (k : Int)) else hiAt l f k
theorem zrep (n : Nat) : List.replicate n z55 = tab n (fun _ => z55) := by
  apply List.ext_getElem?
  intro j
  rcases Nat.lt_or_ge j n with hj | hj
  · rw [tab_get n _ j hj, List.getElem?_replicate, if_pos hj]
  · rw [List.getElem?_eq_none (by rw [List.length_replicate]; omega), List.getElem?_eq_none (by rw [tab_length]; omega)]
theorem impl_spans (q s : Int) (l : List S53) (f b : Int) (beg : List Int) (hn : l.length ≤ 40) :
    Ev (fun k => impl_FlyPath_spans.f k q s l f b beg) (spansR wrap64 (begA l f beg) (begB l b beg) q s (holdAt l) l.length) := by
  obtain ⟨n, hnl⟩ : ∃ n, n = l.length := ⟨_, rfl⟩
  obtain ⟨A, hA⟩ : ∃ A, A = begA l f beg := ⟨_, rfl⟩
  obtain ⟨B, hB⟩ : ∃ B, B = begB l b beg := ⟨_, rfl⟩
  obtain ⟨h, hh⟩ : ∃ h, h = holdAt l := ⟨_, rfl⟩
  rw [← hA, ← hB, ← hh, ← hnl]
  rw [← hnl] at hn
  -- the check
  have check : Ev (fun k => impl_FlyPath_spans.l3 k (tab (n + 1) (fun j => (⟨spanL wrap64 A q s h n j, spanH wrap64 B q s h n j⟩ : S55))) (tab (n + 1) (fun j => (⟨spanL wrap64 A q s h n j, spanH wrap64 B q s h n j⟩ : S55))) ((tab (n + 1) (fun j => (⟨spanL wrap64 A q s h n j, spanH wrap64 B q s h n j⟩ : S55))).length : Int) 0) (spansR wrap64 A B q s h n) := by
    have round : ∀ i : Nat, i < n + 1 → ∀ k, impl_FlyPath_spans.l3 (k + 1) (tab (n + 1) (fun j => (⟨spanL wrap64 A q s h n j, spanH wrap64 B q s h n j⟩ : S55))) (tab (n + 1) (fun j => (⟨spanL wrap64 A q s h n j, spanH wrap64 B q s h n j⟩ : S55))) ((n + 1 : Nat) : Int) (i : Int) = if spanL wrap64 A q s h n i > spanH wrap64 B q s h n i then (some (([] : List S55), false)) else impl_FlyPath_spans.l3 k (tab (n + 1) (fun j => (⟨spanL wrap64 A q s h n j, spanH wrap64 B q s h n j⟩ : S55))) (tab (n + 1) (fun j => (⟨spanL wrap64 A q s h n j, spanH wrap64 B q s h n j⟩ : S55))) ((n + 1 : Nat) : Int) ((i : Int) + 1) := by
      intro i hi k
      simp only [impl_FlyPath_spans.l3, tab_length]
      rw [if_pos (show (i : Int) < ((n + 1 : Nat) : Int) by omega), if_pos (show (0 : Int) ≤ i by omega), tab_rd (n + 1) _ i hi, w64 (show -9223372036854775808 ≤ (i : Int) + 1 by omega) (by omega), if_pos (show (i : Int) < ((n + 1 : Nat) : Int) by omega)]
    rw [tab_length]
    have := find_loop (F := fun k i => impl_FlyPath_spans.l3 k (tab (n + 1) (fun j => (⟨spanL wrap64 A q s h n j, spanH wrap64 B q s h n j⟩ : S55))) (tab (n + 1) (fun j => (⟨spanL wrap64 A q s h n j, spanH wrap64 B q s h n j⟩ : S55))) ((n + 1 : Nat) : Int) i) (n + 1) (fun j => !decide (spanL wrap64 A q s h n j ≤ spanH wrap64 B q s h n j)) (fun _ => (([] : List S55), false)) (tab (n + 1) (fun j => (⟨spanL wrap64 A q s h n j, spanH wrap64 B q s h n j⟩ : S55)), true) (fun i hi hp => Ev.step (round i hi) (Ev.ite_pos (by have := hp; simp at this; omega) (Ev.val _)))
      (fun i hi hp r' hr => Ev.step (round i hi) (Ev.ite_neg (by have := hp; simp at this; omega) hr)) (Ev.step (fun k => by
        simp only [impl_FlyPath_spans.l3]
        rw [if_neg (by omega)]) (Ev.val _)) (n + 1) 0 (by omega)
    refine Ev.cast this ?_
    unfold spansR spansOk
    by_cases hok : allN (fun k => decide (spanL wrap64 A q s h n k ≤ spanH wrap64 B q s h n k)) (n + 1) 0 = true
    · rw [if_pos hok]
      refine findN_none (n + 1) 0 (fun j h1 h2 => ?_)
      have := (allN_iff (n + 1) 0).1 hok j h1 h2
      simp only [this, Bool.not_true]
    · rw [if_neg hok]
      have ne := Bool.eq_false_iff.2 hok
      generalize hP : (fun k => decide (spanL wrap64 A q s h n k ≤ spanH wrap64 B q s h n k)) = P at ne
      have e : (fun j => !decide (spanL wrap64 A q s h n j ≤ spanH wrap64 B q s h n j)) = fun j => !P j := by rw [← hP]
      rw [e]
      exact findN_same P _ _ (n + 1) 0 ne
  -- back
  have back : ∀ i, i ≤ n → Ev (fun k => impl_FlyPath_spans.l2 k (tab (n + 1) (fun j => if i ≤ j then (⟨spanL wrap64 A q s h n j, spanH wrap64 B q s h n j⟩ : S55) else ⟨fwdL wrap64 A q j, fwdH wrap64 B s h j⟩)) ((i : Int) - 1) q s l f b) (spansR wrap64 A B q s h n) := by
    intro i
    induction i with
    | zero =>
      intro hi
      refine Ev.succ ?_
      simp only [impl_FlyPath_spans.l2]
      refine Ev.ite_neg (by omega) ?_
      have := check
      rw [tab_congr (n + 1) (fun j => (⟨spanL wrap64 A q s h n j, spanH wrap64 B q s h n j⟩ : S55)) (fun j => if 0 ≤ j then (⟨spanL wrap64 A q s h n j, spanH wrap64 B q s h n j⟩ : S55) else ⟨fwdL wrap64 A q j, fwdH wrap64 B s h j⟩) (fun j hj => by rw [if_pos (Nat.zero_le j)])] at this
      exact this
    | succ i ih =>
      intro hi
      refine Ev.succ ?_
      simp only [impl_FlyPath_spans.l2, show (((i + 1 : Nat) : Int)) - 1 = (i : Int) by omega, Option.bind_some]
      rw [w64 (show -9223372036854775808 ≤ (i : Int) + 1 by omega) (by omega)]
      simp only [tab_length]
      rw [show ((i : Int) + 1) = (((i + 1 : Nat)) : Int) by omega]
      rw [tab_rd (n + 1) _ i (by omega), tab_rd (n + 1) _ (i + 1) (by omega), if_neg (show ¬ i + 1 ≤ i by omega), if_pos (Nat.le_refl (i + 1))]
      refine Ev.ite_pos (by omega) (Ev.ite_pos (by omega) (Ev.ite_pos (by omega) (Ev.ite_pos (by omega) (Ev.ite_pos (by omega) (Ev.ite_pos (by omega) ?_)))))
      simp only [Int.toNat_natCast, mn_eq]
      rw [← spanH_step wrap64 B q s h n i (by omega)]
      rw [tab_set (n + 1) _ i _ (by omega), tab_rd (n + 1) _ i (by omega), tab_rd (n + 1) _ (i + 1) (by omega), if_pos rfl, if_neg (show ¬ i + 1 = i by omega), if_pos (Nat.le_refl (i + 1))]
      rw [w64 (show -9223372036854775808 ≤ (i : Int) - 1 by omega) (by omega)]
      have next := ih (by omega)
      have eL := spanL_step wrap64 A q s h n i (by omega)
      have hhi : ((rd_T53 l (i : Int)).f6 = true) = (h i = true) := by rw [hh]; rfl
      simp only [hhi]
      by_cases hi6 : h i = true
      · refine Ev.ite_pos hi6 ?_
        rw [if_pos hi6] at eL
        rw [tab_congr (n + 1) _ (fun j => if i ≤ j then (⟨spanL wrap64 A q s h n j, spanH wrap64 B q s h n j⟩ : S55) else ⟨fwdL wrap64 A q j, fwdH wrap64 B s h j⟩) (fun j hj => by
          by_cases e : j = i
          · rw [if_pos e, if_pos (by omega), e, eL]
          · rw [if_neg e]
            by_cases e2 : i + 1 ≤ j
            · rw [if_pos e2, if_pos (by omega)]
            · rw [if_neg e2, if_neg (by omega)])]
        exact next
      · refine Ev.ite_neg hi6 ?_
        rw [if_neg hi6] at eL
        rw [mx_eq, ← eL, tab_set (n + 1) _ i _ (by omega)]
        rw [tab_congr (n + 1) _ (fun j => if i ≤ j then (⟨spanL wrap64 A q s h n j, spanH wrap64 B q s h n j⟩ : S55) else ⟨fwdL wrap64 A q j, fwdH wrap64 B s h j⟩) (fun j hj => by
          by_cases e : j = i
          · rw [if_pos e, if_pos (by omega), e]
          · rw [if_neg e, if_neg e]
            by_cases e2 : i + 1 ≤ j
            · rw [if_pos e2, if_pos (by omega)]
            · rw [if_neg e2, if_neg (by omega)])]
        exact next
  -- forward
  have forth : ∀ (d i : Nat), i + d = n → Ev (fun k => impl_FlyPath_spans.l1 k (n : Int) (tab (n + 1) (fun j => if j ≤ i then (⟨fwdL wrap64 A q j, fwdH wrap64 B s h j⟩ : S55) else ⟨A j, B j⟩)) ((i : Int) + 1) q s l f b) (spansR wrap64 A B q s h n) := by
    intro d
    induction d with
    | zero =>
      intro i hi
      refine Ev.succ ?_
      simp only [impl_FlyPath_spans.l1]
      refine Ev.ite_neg (by omega) ?_
      rw [w64 (show -9223372036854775808 ≤ (n : Int) - 1 by omega) (by omega)]
      have := back n (Nat.le_refl _)
      rw [tab_congr (n + 1) _ (fun j => if n ≤ j then (⟨spanL wrap64 A q s h n j, spanH wrap64 B q s h n j⟩ : S55) else ⟨fwdL wrap64 A q j, fwdH wrap64 B s h j⟩) (fun j hj => by
        rw [if_pos (show j ≤ i by omega)]
        by_cases e : n ≤ j
        · rw [if_pos e, show j = n by omega, spanL_last, spanH_last]
        · rw [if_neg e])]
      exact this
    | succ d ih =>
      intro i hi
      refine Ev.succ ?_
      simp only [impl_FlyPath_spans.l1, Option.bind_some, tab_length]
      rw [show (i : Int) + 1 - 1 = (i : Int) by omega, w64 (show -9223372036854775808 ≤ (i : Int) by omega) (by omega), show ((i : Int) + 1) = (((i + 1 : Nat)) : Int) by omega]
      rw [tab_rd (n + 1) _ i (by omega), tab_rd (n + 1) _ (i + 1) (by omega), if_neg (show ¬ i + 1 ≤ i by omega), if_pos (Nat.le_refl i)]
      refine Ev.ite_pos (by omega) (Ev.ite_pos (by omega) (Ev.ite_pos (by omega) (Ev.ite_pos (by omega) (Ev.ite_pos (by omega) (Ev.ite_pos (by omega) ?_)))))
      simp only [Int.toNat_natCast, mx_eq]
      rw [tab_set (n + 1) _ (i + 1) _ (by omega), tab_rd (n + 1) _ i (by omega), tab_rd (n + 1) _ (i + 1) (by omega), if_pos rfl, if_neg (show ¬ i = i + 1 by omega), if_pos (Nat.le_refl i)]
      rw [w64 (show -9223372036854775808 ≤ (((i + 1 : Nat)) : Int) + 1 by omega) (by omega)]
      have next := ih (i + 1) (by omega)
      have hhi : ((rd_T53 l (i : Int)).f6 = true) = (h i = true) := by rw [hh]; rfl
      simp only [hhi]
      by_cases hi6 : h i = true
      · refine Ev.ite_pos hi6 ?_
        rw [tab_congr (n + 1) _ (fun j => if j ≤ i + 1 then (⟨fwdL wrap64 A q j, fwdH wrap64 B s h j⟩ : S55) else ⟨A j, B j⟩) (fun j hj => by
          by_cases e : j = i + 1
          · rw [if_pos e, if_pos (by omega), e]
            simp only [fwdL, fwdH, if_pos hi6]
          · rw [if_neg e]
            by_cases e2 : j ≤ i
            · rw [if_pos e2, if_pos (by omega)]
            · rw [if_neg e2, if_neg (by omega)])]
        exact next
      · refine Ev.ite_neg hi6 ?_
        rw [mn_eq, tab_set (n + 1) _ (i + 1) _ (by omega)]
        rw [tab_congr (n + 1) _ (fun j => if j ≤ i + 1 then (⟨fwdL wrap64 A q j, fwdH wrap64 B s h j⟩ : S55) else ⟨A j, B j⟩) (fun j hj => by
          by_cases e : j = i + 1
          · rw [if_pos e, if_pos (by omega), e]
            simp only [fwdL, fwdH, if_neg hi6]
          · rw [if_neg e, if_neg e]
            by_cases e2 : j ≤ i
            · rw [if_pos e2, if_pos (by omega)]
            · rw [if_neg e2, if_neg (by omega)])]
        exact next
  -- the windows
  have wins : ∀ (d i : Nat), i + d = n + 1 → Ev (fun k => impl_FlyPath_spans.l0 k beg (n : Int) (tab (n + 1) (fun j => if j < i then (⟨A j, B j⟩ : S55) else z55)) ((n + 1 : Nat) : Int) (i : Int) q s l f b) (spansR wrap64 A B q s h n) := by
    intro d
    induction d with
    | zero =>
      intro i hi
      refine Ev.succ ?_
      simp only [impl_FlyPath_spans.l0]
      refine Ev.ite_neg (by omega) ?_
      have := forth n 0 (by omega)
      rw [tab_congr (n + 1) _ (fun j => if j ≤ 0 then (⟨fwdL wrap64 A q j, fwdH wrap64 B s h j⟩ : S55) else ⟨A j, B j⟩) (fun j hj => by
        rw [if_pos (show j < i by omega)]
        by_cases e : j ≤ 0
        · rw [if_pos e, show j = 0 by omega]; rfl
        · rw [if_neg e])]
      exact this
    | succ d ih =>
      intro i hi
      refine Ev.succ ?_
      simp only [impl_FlyPath_spans.l0, Option.bind_some, tab_length]
      refine Ev.ite_pos (by omega) ?_
      rw [impl_bound q s l f b (i : Int) (by omega) (by omega)]
      simp only [Option.bind_some, Int.toNat_natCast]
      rw [tab_rd (n + 1) _ i (by omega), if_neg (show ¬ i < i by omega), tab_set (n + 1) _ i _ (by omega)]
      rw [tab_rd (n + 1) _ i (by omega), if_pos rfl, tab_set (n + 1) _ i _ (by omega)]
      rw [tab_rd (n + 1) _ i (by omega), if_pos rfl, tab_set (n + 1) _ i _ (by omega)]
      rw [tab_rd (n + 1) _ i (by omega), if_pos rfl, tab_set (n + 1) _ i _ (by omega)]
      rw [w64 (show -9223372036854775808 ≤ (i : Int) + 1 by omega) (by omega)]
      refine Ev.ite_pos (by omega) (Ev.ite_pos (by omega) ?_)
      have next := ih (i + 1) (by omega)
      rw [show (((i + 1 : Nat)) : Int) = (i : Int) + 1 by omega] at next
      by_cases hb : i < beg.length
      · refine Ev.ite_pos (by omega) ?_
        rw [mx_eq, mn_eq]
        rw [tab_congr (n + 1) _ (fun j => if j < i + 1 then (⟨A j, B j⟩ : S55) else z55) (fun j hj => by
          by_cases e : j = i
          · simp only [if_pos e]
            rw [if_pos (by omega), e, hA, hB]
            unfold begA begB
            rw [if_pos hb, if_pos hb]
          · simp only [if_neg e]
            by_cases e2 : j < i
            · rw [if_pos e2, if_pos (by omega)]
            · rw [if_neg e2, if_neg (by omega)])]
        exact next
      · refine Ev.ite_neg (by omega) ?_
        rw [tab_congr (n + 1) _ (fun j => if j < i + 1 then (⟨A j, B j⟩ : S55) else z55) (fun j hj => by
          by_cases e : j = i
          · simp only [if_pos e]
            rw [if_pos (by omega), e, hA, hB]
            unfold begA begB
            rw [if_neg hb, if_neg hb]
          · simp only [if_neg e]
            by_cases e2 : j < i
            · rw [if_pos e2, if_pos (by omega)]
            · rw [if_neg e2, if_neg (by omega)])]
        exact next
  unfold impl_FlyPath_spans.f
  rw [← hnl, w64 (show -9223372036854775808 ≤ (n : Int) + 1 by omega) (by omega), show ((n : Int) + 1).toNat = n + 1 by omega, zrep]
  refine Ev.ite_pos (by omega) (Ev.ite_pos (by omega) ?_)
  simp only [Option.bind_some, tab_length]
  have := wins (n + 1) 0 (by omega)
  rw [tab_congr (n + 1) (fun _ => z55) (fun j => if j < 0 then (⟨A j, B j⟩ : S55) else z55) (fun j hj => by rw [if_neg (by omega)])]
  exact this
def spansOf (q s : Int) (l : List S53) (f b : Int) : List S55 × Bool := if pathOk q s l f b = true then spansR idw (fun k => loAt l f k) (fun k => hiAt l b k) q s (holdAt l) l.length else ([], false)
theorem spansR_length (w : Int → Int) (A B : Nat → Int) (q s : Int) (h : Nat → Bool) (n : Nat) : (spansR w A B q s h n).1.length ≤ n + 1 := by
  unfold spansR
  split
  · rw [tab_length]; exact Nat.le_refl _
  · exact Nat.zero_le _
theorem spansOf_length (q s : Int) (l : List S53) (f b : Int) : (spansOf q s l f b).1.length ≤ 41 := by
  unfold spansOf
  by_cases h : pathOk q s l f b = true
  · rw [if_pos h]
    have := spansR_length idw (fun k => loAt l f k) (fun k => hiAt l b k) q s (holdAt l) l.length
    have := (pathOk_facts h).2.1.2
    omega
  · rw [if_neg h]; exact Nat.zero_le _
theorem spec_spans_ok {q s : Int} {l : List S53} {f b : Int} (h : pathOk q s l f b = true) : Ev (fun k => spec_l24Spans.f k q s l f b) (spansR idw (fun k => loAt l f k) (fun k => hiAt l b k) q s (holdAt l) l.length) := by
  have hf := pathOk_facts h
  exact spec_spans q s l f b hf.1 hf.2.1.2 (fun k _ => by have := loAt_range h k; omega) (fun k _ => by have := loAt_range h k; omega)
theorem impl_spans_nil {q s : Int} {l : List S53} {f b : Int} (h : pathOk q s l f b = true) : Ev (fun k => impl_FlyPath_spans.f k q s l f b []) (spansR idw (fun k => loAt l f k) (fun k => hiAt l b k) q s (holdAt l) l.length) := by
  have hf := pathOk_facts h
  have := impl_spans q s l f b [] hf.2.1.2
  have e1 : begA l f [] = fun k : Nat => loAt l f (k : Int) := by funext k; unfold begA; rw [if_neg (by simp)]
  have e2 : begB l b [] = fun k : Nat => hiAt l b (k : Int) := by funext k; unfold begB; rw [if_neg (by simp)]
  rw [e1, e2, spansR_wrap _ _ q s _ _ hf.2.1.2 hf.1 (fun k _ => (loAt_range h k).1) (fun k _ => (loAt_range h k).2.2)] at this
  exact this
theorem spec_law (q s : Int) (l : List S53) (f b : Int) : Ev (fun k => spec_FlySpans.f k q s l f b) (spansOf q s l f b) := by
  unfold spec_FlySpans.f spansOf
  refine Ev.bind (spec_pathOk q s l f b) ?_
  by_cases h : pathOk q s l f b = true
  · rw [if_pos h]
    exact Ev.ite_pos h (Ev.bind (spec_spans_ok h) (Ev.val _))
  · rw [if_neg h]
    exact Ev.ite_neg h (Ev.val _)
theorem impl_law (q s : Int) (l : List S53) (f b : Int) : Ev (fun k => impl_FlySpans.f k q s l f b) (spansOf q s l f b) := by
  unfold impl_FlySpans.f spansOf
  refine Ev.bind (impl_pathOk q s l f b) ?_
  by_cases h : pathOk q s l f b = true
  · rw [if_pos h]
    exact Ev.ite_pos h (Ev.bind (impl_spans_nil h) (Ev.val _))
  · rw [if_neg h]
    exact Ev.ite_neg h (Ev.val _)
/-! #### a path's steps changed one by one -/
theorem tab_rdS (n : Nat) (g : Nat → S53) (i : Nat) (hi : i < n) : rd_T53 (tab n g) (i : Int) = g i := by
  show (tab n g).getD ((i : Int)).toNat _ = g i
  rw [Int.toNat_natCast, List.getD_eq_getElem?_getD, tab_get n g i hi]; rfl
theorem rd_setS (x : List S53) (i : Nat) (h : i < x.length) (v : S53) : rd_T53 (x.set i v) (i : Int) = v := by
  show (x.set i v).getD ((i : Int)).toNat _ = v
  rw [Int.toNat_natCast, List.getD_eq_getElem?_getD, List.getElem?_set_self h]; rfl
def upTo (g : Nat → S53) (l : List S53) (i : Nat) : List S53 := tab l.length (fun j => if j < i then g j else rd_T53 l (j : Int))
theorem upTo_length (g : Nat → S53) (l : List S53) (i : Nat) : (upTo g l i).length = l.length := tab_length _ _
theorem upTo_rd (g : Nat → S53) (l : List S53) (i j : Nat) (hj : j < l.length) : rd_T53 (upTo g l i) (j : Int) = if j < i then g j else rd_T53 l (j : Int) := tab_rdS _ _ j hj
theorem upTo_zero (g : Nat → S53) (l : List S53) : upTo g l 0 = l := by
  unfold upTo
  apply List.ext_getElem?
  intro j
  rcases Nat.lt_or_ge j l.length with hj | hj
  · rw [tab_get _ _ j hj, if_neg (by omega), List.getElem?_eq_getElem hj]
    congr 1
    show l.getD ((j : Int)).toNat _ = l[j]
    rw [Int.toNat_natCast, List.getD_eq_getElem?_getD, List.getElem?_eq_getElem hj]; rfl
  · rw [List.getElem?_eq_none (by rw [tab_length]; omega), List.getElem?_eq_none (by omega)]
theorem upTo_set (g : Nat → S53) (l : List S53) (i : Nat) (hi : i < l.length) : (upTo g l i).set i (g i) = upTo g l (i + 1) := by
  unfold upTo
  rw [tab_set _ _ i _ hi]
  refine tab_congr _ _ _ (fun j hj => ?_)
  by_cases e : j = i
  · rw [if_pos e, if_pos (by omega), e]
  · rw [if_neg e]
    by_cases e2 : j < i
    · rw [if_pos e2, if_pos (by omega)]
    · rw [if_neg e2, if_neg (by omega)]
/-! #### the rest of a path: the steps from one on, the first two and the path's window changed -/
theorem drop_tab (l : List S53) (a : Nat) : l.drop a = tab (l.length - a) (fun j => rd_T53 l ((a + j : Nat) : Int)) := by
  apply List.ext_getElem?
  intro j
  rcases Nat.lt_or_ge j (l.length - a) with hj | hj
  · rw [tab_get _ _ j hj, List.getElem?_drop, List.getElem?_eq_getElem (by omega)]
    congr 1
    show l[a + j] = l.getD (((a + j : Nat) : Int)).toNat _
    rw [Int.toNat_natCast, List.getD_eq_getElem?_getD, List.getElem?_eq_getElem (by omega)]; rfl
  · rw [List.getElem?_eq_none (by rw [List.length_drop]; omega), List.getElem?_eq_none (by rw [tab_length]; omega)]
theorem tab_rd0 (n : Nat) (g : Nat → S53) (h : 0 < n) : rd_T53 (tab n g) 0 = g 0 := tab_rdS n g 0 h
theorem tab_rd1 (n : Nat) (g : Nat → S53) (h : 1 < n) : rd_T53 (tab n g) 1 = g 1 := tab_rdS n g 1 h
/-- Step j of the rest from step a on: the first entered within lo and hi, the second from now on. -/
def restStep (l : List S53) (a : Nat) (lo hi now : Int) (j : Nat) : S53 :=
  if j = 1 then ⟨(rd_T53 l ((a + j : Nat) : Int)).f0, (rd_T53 l ((a + j : Nat) : Int)).f1, (rd_T53 l ((a + j : Nat) : Int)).f2, (rd_T53 l ((a + j : Nat) : Int)).f3, max (rd_T53 l ((a + j : Nat) : Int)).f4 (now + 1), (rd_T53 l ((a + j : Nat) : Int)).f5, (rd_T53 l ((a + j : Nat) : Int)).f6⟩
  else if j = 0 then ⟨(rd_T53 l ((a + j : Nat) : Int)).f0, (rd_T53 l ((a + j : Nat) : Int)).f1, (rd_T53 l ((a + j : Nat) : Int)).f2, (rd_T53 l ((a + j : Nat) : Int)).f3, lo, hi, (rd_T53 l ((a + j : Nat) : Int)).f6⟩
  else rd_T53 l ((a + j : Nat) : Int)
def restRow (l : List S53) (a : Nat) (lo hi now : Int) : List S53 := tab (l.length - a) (restStep l a lo hi now)
def restF (l : List S53) (a : Nat) (f now : Int) : Int := if 1 < l.length - a then f else max f (now + 1)
theorem restRow_length (l : List S53) (a : Nat) (lo hi now : Int) : (restRow l a lo hi now).length = l.length - a := tab_length _ _
/-- A path, if there is a flight along it. -/
def canOf (q s : Int) (l : List S53) (f b : Int) : Int × Int × List S53 × Int × Int × Bool :=
  if (spansR idw (fun k => loAt l f k) (fun k => hiAt l b k) q s (holdAt l) l.length).2 = true then (q, s, l, f, b, true) else (0, 0, [], 0, 0, false)
theorem canOf_length (q s : Int) (l : List S53) (f b : Int) : (canOf q s l f b).2.2.1.length ≤ l.length := by
  unfold canOf
  split
  · exact Nat.le_refl _
  · exact Nat.zero_le _
theorem spansR_ok {w : Int → Int} {A B : Nat → Int} {q s : Int} {h : Nat → Bool} {n : Nat} (ho : (spansR w A B q s h n).2 = true) : ∀ k, k ≤ n → A k ≤ B k := by
  intro k hk
  unfold spansR at ho
  by_cases hok : spansOk w A B q s h n = true
  · have := (spansOk_iff w A B q s h n).1 hok k hk
    have h1 := fwdL_ge w A q k
    have h2 := fwdH_le w B s h k
    have h3 := spanL_ge w A q s h n k hk
    have h4 := spanH_le w B q s h n k hk
    omega
  · rw [if_neg hok] at ho
    cases ho
/-- What is told of the rest of a path that is ok. -/
structure RestOk (l : List S53) (f b : Int) (a : Nat) (lo hi now : Int) : Prop where
  la : a < l.length
  lo0 : 0 ≤ lo
  loB : lo ≤ 10000
  hi0 : -1 ≤ hi
  hiB : hi ≤ 10000
  now0 : 0 ≤ now
  nowB : now ≤ 10000
theorem restStep_same (l : List S53) (a : Nat) (lo hi now : Int) (j : Nat) : (restStep l a lo hi now j).f0 = (rd_T53 l ((a + j : Nat) : Int)).f0 ∧ (restStep l a lo hi now j).f1 = (rd_T53 l ((a + j : Nat) : Int)).f1 ∧ (restStep l a lo hi now j).f2 = (rd_T53 l ((a + j : Nat) : Int)).f2 ∧ (restStep l a lo hi now j).f3 = (rd_T53 l ((a + j : Nat) : Int)).f3 := by
  unfold restStep
  by_cases h1 : j = 1
  · rw [if_pos h1]; exact ⟨rfl, rfl, rfl, rfl⟩
  · rw [if_neg h1]
    by_cases h0 : j = 0
    · rw [if_pos h0]; exact ⟨rfl, rfl, rfl, rfl⟩
    · rw [if_neg h0]; exact ⟨rfl, rfl, rfl, rfl⟩
theorem restStep_time {q s : Int} {l : List S53} {f b : Int} (h : pathOk q s l f b = true) {a : Nat} {lo hi now : Int} (r : RestOk l f b a lo hi now) (j : Nat) (hj : a + j < l.length) : 0 ≤ (restStep l a lo hi now j).f4 ∧ (restStep l a lo hi now j).f4 ≤ 10001 ∧ -1 ≤ (restStep l a lo hi now j).f5 ∧ (restStep l a lo hi now j).f5 ≤ 10000 := by
  have hs := (stepOk_iff _).1 ((pathOk_facts h).2.2.2 (a + j) hj)
  have := r.lo0; have := r.loB; have := r.hi0; have := r.hiB; have := r.now0; have := r.nowB
  unfold restStep
  by_cases h1 : j = 1
  · rw [if_pos h1]
    dsimp only
    omega
  · rw [if_neg h1]
    by_cases h0 : j = 0
    · rw [if_pos h0]
      dsimp only
      omega
    · rw [if_neg h0]
      omega
theorem rest_lo {q s : Int} {l : List S53} {f b : Int} (h : pathOk q s l f b = true) {a : Nat} {lo hi now : Int} (r : RestOk l f b a lo hi now) (k : Nat) : 0 ≤ loAt (restRow l a lo hi now) (restF l a f now) (k : Int) ∧ loAt (restRow l a lo hi now) (restF l a f now) (k : Int) ≤ 10001 := by
  have hf := (pathOk_facts h).2.2.1
  have := r.now0; have := r.nowB
  unfold loAt
  rw [restRow_length]
  by_cases hk : k < l.length - a
  · rw [if_pos (by omega), show rd_T53 (restRow l a lo hi now) (k : Int) = restStep l a lo hi now k from tab_rdS _ _ k hk]
    have := restStep_time h r k (by omega)
    omega
  · rw [if_neg (by omega)]
    unfold restF
    split <;> omega
theorem rest_hi {q s : Int} {l : List S53} {f b : Int} (h : pathOk q s l f b = true) {a : Nat} {lo hi now : Int} (r : RestOk l f b a lo hi now) (k : Nat) : -1 ≤ hiAt (restRow l a lo hi now) b (k : Int) ∧ hiAt (restRow l a lo hi now) b (k : Int) ≤ 10000 := by
  have hf := (pathOk_facts h).2.2.1
  unfold hiAt
  rw [restRow_length]
  by_cases hk : k < l.length - a
  · rw [if_pos (by omega), show rd_T53 (restRow l a lo hi now) (k : Int) = restStep l a lo hi now k from tab_rdS _ _ k hk]
    have := restStep_time h r k (by omega)
    omega
  · rw [if_neg (by omega)]
    omega
/-- A rest with a flight along it is a path that is ok. -/
theorem rest_pathOk {q s : Int} {l : List S53} {f b : Int} (h : pathOk q s l f b = true) {a : Nat} {lo hi now : Int} (r : RestOk l f b a lo hi now)
    (hle : ∀ k : Nat, k ≤ (restRow l a lo hi now).length → loAt (restRow l a lo hi now) (restF l a f now) (k : Int) ≤ hiAt (restRow l a lo hi now) b (k : Int)) : pathOk q s (restRow l a lo hi now) (restF l a f now) b = true := by
  have hf := pathOk_facts h
  have la := r.la
  have hp := h
  unfold pathOk at hp ⊢
  rw [Bool.and_eq_true, Bool.and_eq_true, Bool.and_eq_true] at hp ⊢
  refine ⟨hp.1, decide_eq_true (by rw [restRow_length]; omega), ?_, (allN_iff _ _).2 (fun j _ hj => ?_)⟩
  · have h1 := hle (restRow l a lo hi now).length (Nat.le_refl _)
    have h2 := rest_lo h r (restRow l a lo hi now).length
    unfold loAt at h1 h2
    unfold hiAt at h1
    rw [if_neg (by omega), if_neg (by omega)] at h1
    rw [if_neg (by omega)] at h2
    exact decide_eq_true (by omega)
  · have hj' : j < l.length - a := by rw [restRow_length] at hj; omega
    have er : ∀ i : Nat, i < l.length - a → rd_T53 (restRow l a lo hi now) (i : Int) = restStep l a lo hi now i := fun i hi => tab_rdS _ _ i hi
    unfold placeOk
    rw [Bool.and_eq_true]
    have hs := (stepOk_iff _).1 (hf.2.2.2 (a + j) (by omega))
    have hm := restStep_same l a lo hi now j
    have ht := restStep_time h r j (by omega)
    have hw := hle j (by rw [restRow_length]; omega)
    unfold loAt hiAt at hw
    rw [restRow_length, if_pos (by omega), if_pos (by omega), er j hj'] at hw
    refine ⟨?_, ?_⟩
    · rw [er j hj', stepOk_iff, hm.1, hm.2.1, hm.2.2.1, hm.2.2.2]
      omega
    · rw [Bool.or_eq_true]
      by_cases h0 : j = 0
      · exact Or.inl (decide_eq_true h0)
      · refine Or.inr ?_
        have hall := (allN_iff _ _).1 hp.2.2.2 (a + j) (by omega) (by omega)
        unfold placeOk at hall
        rw [Bool.and_eq_true, Bool.or_eq_true] at hall
        have hn := hall.2.resolve_left (fun e => by have := of_decide_eq_true e; omega)
        have hm1 := restStep_same l a lo hi now (j - 1)
        rw [show ((j : Int) - 1) = ((j - 1 : Nat) : Int) by omega, er (j - 1) (by omega), er j hj', nextOk_iff, hm.1, hm.2.1, hm.2.2.1, hm.2.2.2, hm1.1, hm1.2.1, hm1.2.2.1, hm1.2.2.2]
        rw [nextOk_iff, show (((a + j : Nat) : Int) - 1) = ((a + (j - 1) : Nat) : Int) by omega] at hn
        exact hn
theorem rest_spec_can {q s : Int} {l : List S53} {f b : Int} (h : pathOk q s l f b = true) {a : Nat} {lo hi now : Int} (r : RestOk l f b a lo hi now) :
    Ev (fun k => spec_l27Can.f k q s (restRow l a lo hi now) (restF l a f now) b) (canOf q s (restRow l a lo hi now) (restF l a f now) b) := by
  have hf := pathOk_facts h
  unfold spec_l27Can.f canOf
  refine Ev.bind (spec_spans q s (restRow l a lo hi now) (restF l a f now) b hf.1 (by rw [restRow_length]; omega) (fun k _ => by have := rest_lo h r k; omega) (fun k _ => by have := rest_hi h r k; omega)) ?_
  split <;> exact Ev.val _
theorem rest_law_ok {q s : Int} {l : List S53} {f b : Int} (h : pathOk q s l f b = true) {a : Nat} {lo hi now : Int} (r : RestOk l f b a lo hi now) :
    (spansOf q s (restRow l a lo hi now) (restF l a f now) b).2 = (spansR idw (fun k => loAt (restRow l a lo hi now) (restF l a f now) k) (fun k => hiAt (restRow l a lo hi now) b k) q s (holdAt (restRow l a lo hi now)) (restRow l a lo hi now).length).2 := by
  unfold spansOf
  by_cases hok : (spansR idw (fun k => loAt (restRow l a lo hi now) (restF l a f now) k) (fun k => hiAt (restRow l a lo hi now) b k) q s (holdAt (restRow l a lo hi now)) (restRow l a lo hi now).length).2 = true
  · rw [if_pos (rest_pathOk h r (spansR_ok hok))]
  · split
    · rfl
    · exact (Bool.eq_false_iff.2 hok).symm
theorem mx_max (a b : Int) : mx a b = max a b := by
  unfold mx; split <;> omega
theorem mn_min (a b : Int) : mn a b = min a b := by
  unfold mn; split <;> omega
theorem set_step (n : Nat) (g : Nat → S53) (i : Nat) (v : S53) (hi : i < n) : (tab n g).set i v = tab n (fun j => if j = i then v else g j) := tab_set n g i v hi
theorem rest_impl {q s : Int} {l : List S53} {f b : Int} (h : pathOk q s l f b = true) {a : Nat} {lo hi now : Int} (r : RestOk l f b a lo hi now) :
    Ev (fun k => impl_FlyPath_rest.f k q s l f b (a : Int) lo hi now) (canOf q s (restRow l a lo hi now) (restF l a f now) b) := by
  have hf := pathOk_facts h
  have la := r.la; have := r.now0; have := r.nowB
  unfold impl_FlyPath_rest.f
  simp only [Int.toNat_natCast, Option.bind_some, List.nil_append, drop_tab l a, tab_length]
  refine Ev.ite_pos (by omega) (Ev.ite_pos (by omega) (Ev.ite_pos (by simp only [List.length_nil]; omega) (Ev.ite_pos (by omega) ?_)))
  rw [w64 (show -9223372036854775808 ≤ now + 1 by omega) (by omega)]
  simp only [Int.toNat_zero, Int.toNat_one, set_step _ _ 0 _ (show 0 < l.length - a by omega), tab_rd0 _ _ (show 0 < l.length - a by omega), if_pos, mx_max]
  have fin : ∀ x f', x = restRow l a lo hi now → f' = restF l a f now → Ev (fun k => (impl_FlySpans.f k q s x f' b).bind fun bt => if bt.2 = true then some (q, s, x, f', b, true) else some (0, 0, ([] : List S53), 0, 0, false)) (canOf q s (restRow l a lo hi now) (restF l a f now) b) := by
    intro x f' hx hf'
    subst hx
    subst hf'
    refine Ev.bind (impl_law q s _ _ b) ?_
    have e := rest_law_ok h r
    unfold canOf
    rw [← e]
    split <;> exact Ev.val _
  by_cases h1 : 1 < l.length - a
  · refine Ev.ite_pos (by omega) (Ev.ite_pos (by omega) ?_)
    refine fin _ _ ?_ (by unfold restF; rw [if_pos h1])
    rw [tab_rd1 _ _ h1, set_step _ _ 1 _ h1]
    unfold restRow
    refine tab_congr _ _ _ (fun j hj => ?_)
    unfold restStep
    by_cases e1 : j = 1
    · subst e1
      rfl
    · by_cases e0 : j = 0
      · subst e0
        rfl
      · simp only [if_neg e1, if_neg e0]
  · refine Ev.ite_neg (by omega) ?_
    refine fin _ _ ?_ (by unfold restF; rw [if_neg h1])
    unfold restRow
    refine tab_congr _ _ _ (fun j hj => ?_)
    unfold restStep
    have e0 : j = 0 := by omega
    subst e0
    rfl
theorem rest_after (q s : Int) (l : List S53) (f b : Int) (m : Nat) (lo hi now : Int) (hm : m < l.length) (h0 : 0 ≤ now) (h1 : now ≤ 10000) : spec_l27After.f q s (tab (l.length - m) (fun j => if j = 0 then (⟨(rd_T53 l ((m + 0 : Nat) : Int)).f0, (rd_T53 l ((m + 0 : Nat) : Int)).f1, (rd_T53 l ((m + 0 : Nat) : Int)).f2, (rd_T53 l ((m + 0 : Nat) : Int)).f3, lo, hi, (rd_T53 l ((m + 0 : Nat) : Int)).f6⟩ : S53) else if j = 0 then (⟨(rd_T53 l ((m + 0 : Nat) : Int)).f0, (rd_T53 l ((m + 0 : Nat) : Int)).f1, (rd_T53 l ((m + 0 : Nat) : Int)).f2, (rd_T53 l ((m + 0 : Nat) : Int)).f3, lo, (rd_T53 l ((m + 0 : Nat) : Int)).f5, (rd_T53 l ((m + 0 : Nat) : Int)).f6⟩ : S53) else rd_T53 l ((m + j : Nat) : Int))) f b now = some (q, s, restRow l m lo hi now, restF l m f now, b) := by
  unfold spec_l27After.f
  simp only [tab_length, spec_max, Option.bind_some, Int.toNat_one]
  rw [w64 (show -9223372036854775808 ≤ now + 1 by omega) (by omega)]
  by_cases h1 : 1 < l.length - m
  · rw [if_pos (by omega), if_pos (by omega), tab_rd1 _ _ h1, set_step _ _ 1 _ h1]
    unfold restF restRow
    rw [if_pos h1]
    congr 3
    congr 1
    refine tab_congr _ _ _ (fun j hj => ?_)
    unfold restStep
    by_cases e1 : j = 1
    · subst e1
      rfl
    · by_cases e0 : j = 0
      · subst e0
        rfl
      · simp only [if_neg e1, if_neg e0]
  · rw [if_neg (by omega)]
    unfold restF restRow
    rw [if_neg h1]
    congr 3
    congr 1
    refine tab_congr _ _ _ (fun j hj => ?_)
    unfold restStep
    have e0 : j = 0 := by omega
    subst e0
    rfl
def seenL (q s : Int) (l : List S53) (f b : Int) (k : Nat) : Int := spanL idw (fun k => loAt l f k) q s (holdAt l) l.length k
def seenH (q s : Int) (l : List S53) (f b : Int) (k : Nat) : Int := spanH idw (fun k => hiAt l b k) q s (holdAt l) l.length k
def seenOk (q s : Int) (l : List S53) (f b : Int) : Bool := spansOk idw (fun k => loAt l f k) (fun k => hiAt l b k) q s (holdAt l) l.length
def seenOf (q s : Int) (l : List S53) (f b a now : Int) : Int × Int × List S53 × Int × Int × Bool :=
  if pathOk q s l f b = true ∧ 0 ≤ a ∧ a < (l.length : Int) ∧ 0 ≤ now ∧ now ≤ 10000 ∧ seenOk q s l f b = true then
    canOf q s (restRow l a.toNat (seenL q s l f b a.toNat) (min (seenH q s l f b a.toNat) now) now) (restF l a.toNat f now) b
  else (0, 0, [], 0, 0, false)
theorem seenOf_length (q s : Int) (l : List S53) (f b a now : Int) : (seenOf q s l f b a now).2.2.1.length ≤ l.length := by
  unfold seenOf
  split
  · refine Nat.le_trans (canOf_length _ _ _ _ _) ?_
    rw [restRow_length]
    exact Nat.sub_le _ _
  · exact Nat.zero_le _
theorem seen_range {q s : Int} {l : List S53} {f b : Int} (h : pathOk q s l f b = true) (ho : seenOk q s l f b = true) (k : Nat) (hk : k ≤ l.length) : 0 ≤ seenL q s l f b k ∧ seenL q s l f b k ≤ seenH q s l f b k ∧ seenH q s l f b k ≤ 10000 := by
  have h0 := (spansOk_iff _ _ _ _ _ _ _).1 ho k hk
  have h1 := fwdL_ge idw (fun k => loAt l f (k : Int)) q k
  have h2 := fwdH_le idw (fun k => hiAt l b (k : Int)) s (holdAt l) k
  have h3 := spanL_ge idw (fun k => loAt l f (k : Int)) q s (holdAt l) l.length k hk
  have h4 := spanH_le idw (fun k => hiAt l b (k : Int)) q s (holdAt l) l.length k hk
  have h5 := loAt_range h k
  unfold seenL seenH
  omega
theorem seen_rest {q s : Int} {l : List S53} {f b : Int} (h : pathOk q s l f b = true) (ho : seenOk q s l f b = true) {m : Nat} {now : Int} (hm : m < l.length) (h0 : 0 ≤ now) (h1 : now ≤ 10000) : RestOk l f b m (seenL q s l f b m) (min (seenH q s l f b m) now) now := by
  have := seen_range h ho m (by omega)
  exact ⟨hm, by omega, by omega, by omega, by omega, h0, h1⟩
theorem seen_spec (q s : Int) (l : List S53) (f b a now : Int) : Ev (fun k => spec_FlySeen.f k q s l f b a now) (seenOf q s l f b a now) := by
  have bad : ∀ q s l f b, Ev (fun k => spec_FlySeen.j0 k a now true q s l f b) (0, 0, [], 0, 0, false) := fun q s l f b => Ev.step (fun k => (by simp only [spec_FlySeen.j0]; exact if_pos trivial)) (Ev.val _)
  unfold spec_FlySeen.f seenOf
  simp only [spec_in]
  refine Ev.bind (spec_pathOk q s l f b) ?_
  by_cases h : pathOk q s l f b = true
  · refine Ev.ite_pos h ?_
    have hf := pathOk_facts h
    rw [w64 (show -9223372036854775808 ≤ (l.length : Int) - 1 by omega) (by omega)]
    simp only [Option.bind_some]
    by_cases ha : 0 ≤ a ∧ a ≤ (l.length : Int) - 1
    · refine Ev.ite_pos (decide_eq_true ha) ?_
      by_cases hn : 0 ≤ now ∧ now ≤ 10000
      · rw [decide_eq_true hn]
        refine Ev.succ ?_
        simp only [spec_FlySeen.j0]
        refine Ev.ite_neg (by decide) (Ev.bind (spec_spans_ok h) ?_)
        unfold spansR
        by_cases ho : seenOk q s l f b = true
        · refine Ev.cast ?_ (if_pos ⟨h, by omega, by omega, by omega, by omega, ho⟩).symm
          have ho' := ho
          unfold seenOk at ho'
          rw [if_pos ho']
          obtain ⟨m, rfl⟩ : ∃ m : Nat, a = (m : Int) := ⟨a.toNat, by omega⟩
          rw [Int.toNat_natCast]
          have hm : m < l.length := by omega
          have r := seen_rest h ho hm hn.1 hn.2
          refine Ev.ite_pos rfl ?_
          unfold spec_l27Tail.f
          simp only [Option.bind_some, Int.toNat_natCast, List.nil_append, drop_tab l m, tab_length]
          rw [if_pos (show (0 : Int) ≤ (m : Int) by omega), if_pos (show (m : Int) ≤ (l.length : Int) by omega), if_pos (show ([] : List S53).length + (l.length - m) < 2513169434916 by simp only [List.length_nil]; omega)]
          simp only [Option.bind_some, tab_length, tab_rd (l.length + 1) _ m (by omega)]
          refine Ev.ite_pos (by omega) (Ev.ite_pos (by omega) (Ev.ite_pos (by omega) ?_))
          simp only [spec_max, spec_min, Option.bind_some, if_true, Int.toNat_zero, Int.toNat_one, set_step _ _ 0 _ (show 0 < l.length - m by omega), tab_rd0 _ _ (show 0 < l.length - m by omega)]
          exact Ev.bind (Ev.const (rest_after q s l f b m (seenL q s l f b m) (min (seenH q s l f b m) now) now hm hn.1 hn.2)) (Ev.bind (rest_spec_can h r) (Ev.val _))
        · refine Ev.cast ?_ (if_neg (fun hh => ho hh.2.2.2.2.2)).symm
          unfold seenOk at ho
          rw [if_neg ho]
          exact Ev.ite_neg (by decide) (Ev.val _)
      · rw [if_neg (by omega), decide_eq_false hn]
        exact bad _ _ _ _ _
    · rw [if_neg (by omega)]
      exact Ev.ite_neg (fun hh => ha (of_decide_eq_true hh)) (bad _ _ _ _ _)
  · rw [if_neg (fun hh => h hh.1)]
    exact Ev.ite_neg h (bad _ _ _ _ _)
theorem seen_impl (q s : Int) (l : List S53) (f b a now : Int) : Ev (fun k => impl_FlySeen.f k q s l f b a now) (seenOf q s l f b a now) := by
  unfold impl_FlySeen.f seenOf
  refine Ev.bind (impl_law q s l f b) ?_
  unfold spansOf spansR
  by_cases h : pathOk q s l f b = true
  · rw [if_pos h]
    have hf := pathOk_facts h
    by_cases ho : seenOk q s l f b = true
    · have ho' := ho
      unfold seenOk at ho'
      rw [if_pos ho']
      refine Ev.ite_pos rfl ?_
      by_cases h1 : a < 0
      · refine Ev.cast ?_ (if_neg (by omega)).symm
        exact Ev.ite_pos h1 (Ev.val _)
      · refine Ev.ite_neg h1 ?_
        by_cases h2 : a ≥ (l.length : Int)
        · refine Ev.cast ?_ (if_neg (by omega)).symm
          exact Ev.ite_pos h2 (Ev.val _)
        · refine Ev.ite_neg h2 ?_
          by_cases h3 : now < 0
          · refine Ev.cast ?_ (if_neg (by omega)).symm
            exact Ev.ite_pos h3 (Ev.val _)
          · refine Ev.ite_neg h3 ?_
            by_cases h4 : now > 10000
            · refine Ev.cast ?_ (if_neg (by omega)).symm
              exact Ev.ite_pos h4 (Ev.val _)
            · refine Ev.ite_neg h4 ?_
              refine Ev.cast ?_ (if_pos ⟨h, by omega, by omega, by omega, by omega, ho⟩).symm
              obtain ⟨m, rfl⟩ : ∃ m : Nat, a = (m : Int) := ⟨a.toNat, by omega⟩
              rw [Int.toNat_natCast]
              have hm : m < l.length := by omega
              simp only [tab_length, tab_rd (l.length + 1) _ m (by omega), mn_min]
              refine Ev.ite_pos (by omega) (Ev.ite_pos (by omega) ?_)
              exact Ev.bind (rest_impl h (seen_rest h ho hm (by omega) (by omega))) (Ev.val _)
    · refine Ev.cast ?_ (if_neg (fun hh => ho hh.2.2.2.2.2)).symm
      unfold seenOk at ho
      rw [if_neg ho]
      exact Ev.ite_neg (by decide) (Ev.val _)
  · rw [if_neg h]
    refine Ev.cast ?_ (if_neg (fun hh => h hh.1)).symm
    exact Ev.ite_neg (by decide) (Ev.val _)
def restOf (q s : Int) (l : List S53) (f b a e now : Int) : Int × Int × List S53 × Int × Int × Bool :=
  if pathOk q s l f b = true ∧ 0 ≤ a ∧ a < (l.length : Int) ∧ 0 ≤ e ∧ e ≤ now ∧ now ≤ 10000 then
    canOf q s (restRow l a.toNat (max (rd_T53 l a).f4 e) (min (rd_T53 l a).f5 e) now) (restF l a.toNat f now) b
  else (0, 0, [], 0, 0, false)
theorem restOf_length (q s : Int) (l : List S53) (f b a e now : Int) : (restOf q s l f b a e now).2.2.1.length ≤ l.length := by
  unfold restOf
  split
  · refine Nat.le_trans (canOf_length _ _ _ _ _) ?_
    rw [restRow_length]
    exact Nat.sub_le _ _
  · exact Nat.zero_le _
theorem held_nil (q s : Int) (l : List S53) (f b : Int) (hl : l.length ≤ 40) : Ev (fun k => spec_l26Held.f k q s l f b []) (q, s, l, f, b) := by
  unfold spec_l26Held.f spec_l22Copy.f
  simp only [Option.bind_some, List.nil_append]
  rw [if_pos (by simp only [List.length_nil]; omega)]
  refine Ev.succ ?_
  simp only [Option.bind_some, spec_l26Held.l0]
  exact Ev.ite_neg (by simp) (Ev.val _)
theorem rest_spec (q s : Int) (l : List S53) (f b a e now : Int) : Ev (fun k => spec_FlyRest.f k q s l f b a e now) (restOf q s l f b a e now) := by
  have bad : ∀ q s l f b, Ev (fun k => spec_FlyRest.j0 k a e now true q s l f b) (0, 0, [], 0, 0, false) := fun q s l f b => Ev.step (fun k => (by simp only [spec_FlyRest.j0]; exact if_pos trivial)) (Ev.val _)
  unfold spec_FlyRest.f restOf
  simp only [spec_in]
  refine Ev.bind (spec_pathOk q s l f b) ?_
  by_cases h : pathOk q s l f b = true
  · refine Ev.ite_pos h ?_
    have hf := pathOk_facts h
    rw [w64 (show -9223372036854775808 ≤ (l.length : Int) - 1 by omega) (by omega)]
    simp only [Option.bind_some]
    by_cases ha : 0 ≤ a ∧ a ≤ (l.length : Int) - 1
    · refine Ev.ite_pos (decide_eq_true ha) ?_
      by_cases hn : e ≤ now ∧ now ≤ 10000
      · refine Ev.ite_pos (decide_eq_true hn) ?_
        by_cases he : e < 0
        · rw [if_neg (by omega), decide_eq_true he]
          exact bad _ _ _ _ _
        · rw [if_pos ⟨h, by omega, by omega, by omega, by omega, by omega⟩, decide_eq_false he]
          obtain ⟨m, rfl⟩ : ∃ m : Nat, a = (m : Int) := ⟨a.toNat, by omega⟩
          rw [Int.toNat_natCast]
          have hs := (stepOk_iff _).1 (hf.2.2.2 m (by omega))
          have r : RestOk l f b m (max (rd_T53 l (m : Int)).f4 e) (min (rd_T53 l (m : Int)).f5 e) now := ⟨by omega, by omega, by omega, by omega, by omega, by omega, by omega⟩
          refine Ev.succ ?_
          simp only [spec_FlyRest.j0]
          refine Ev.ite_neg (by decide) (Ev.bind (held_nil q s l f b (by omega)) ?_)
          unfold spec_l27Tail.f
          simp only [Option.bind_some, Int.toNat_natCast, List.nil_append, drop_tab l m, tab_length]
          rw [if_pos (show (0 : Int) ≤ (m : Int) by omega), if_pos (show (m : Int) ≤ (l.length : Int) by omega), if_pos (show ([] : List S53).length + (l.length - m) < 2513169434916 by simp only [List.length_nil]; omega)]
          simp only [Option.bind_some, tab_length]
          refine Ev.ite_pos (by omega) ?_
          simp only [spec_max, spec_min, Option.bind_some, if_true, Int.toNat_zero, Int.toNat_one, set_step _ _ 0 _ (show 0 < l.length - m by omega), tab_rd0 _ _ (show 0 < l.length - m by omega)]
          have after : spec_l27After.f q s (tab (l.length - m) (fun j => if j = 0 then (⟨(rd_T53 l ((m + 0 : Nat) : Int)).f0, (rd_T53 l ((m + 0 : Nat) : Int)).f1, (rd_T53 l ((m + 0 : Nat) : Int)).f2, (rd_T53 l ((m + 0 : Nat) : Int)).f3, max (rd_T53 l ((m + 0 : Nat) : Int)).f4 e, min (rd_T53 l ((m + 0 : Nat) : Int)).f5 e, (rd_T53 l ((m + 0 : Nat) : Int)).f6⟩ : S53) else if j = 0 then (⟨(rd_T53 l ((m + 0 : Nat) : Int)).f0, (rd_T53 l ((m + 0 : Nat) : Int)).f1, (rd_T53 l ((m + 0 : Nat) : Int)).f2, (rd_T53 l ((m + 0 : Nat) : Int)).f3, max (rd_T53 l ((m + 0 : Nat) : Int)).f4 e, (rd_T53 l ((m + 0 : Nat) : Int)).f5, (rd_T53 l ((m + 0 : Nat) : Int)).f6⟩ : S53) else rd_T53 l ((m + j : Nat) : Int))) f b now = some (q, s, restRow l m (max (rd_T53 l (m : Int)).f4 e) (min (rd_T53 l (m : Int)).f5 e) now, restF l m f now, b) := by
            unfold spec_l27After.f
            simp only [tab_length, spec_max, Option.bind_some, Int.toNat_one]
            rw [w64 (show -9223372036854775808 ≤ now + 1 by omega) (by omega)]
            by_cases h1 : 1 < l.length - m
            · rw [if_pos (by omega), if_pos (by omega), tab_rd1 _ _ h1, set_step _ _ 1 _ h1]
              unfold restF restRow
              rw [if_pos h1]
              congr 3
              congr 1
              refine tab_congr _ _ _ (fun j hj => ?_)
              unfold restStep
              by_cases e1 : j = 1
              · subst e1
                rfl
              · by_cases e0 : j = 0
                · subst e0
                  rfl
                · simp only [if_neg e1, if_neg e0]
            · rw [if_neg (by omega)]
              unfold restF restRow
              rw [if_neg h1]
              congr 3
              congr 1
              refine tab_congr _ _ _ (fun j hj => ?_)
              unfold restStep
              have e0 : j = 0 := by omega
              subst e0
              rfl
          exact Ev.bind (Ev.const after) (Ev.bind (rest_spec_can h r) (Ev.val _))
      · rw [if_neg (by omega)]
        exact Ev.ite_neg (fun hh => hn (of_decide_eq_true hh)) (bad _ _ _ _ _)
    · rw [if_neg (by omega)]
      exact Ev.ite_neg (fun hh => ha (of_decide_eq_true hh)) (bad _ _ _ _ _)
  · rw [if_neg (fun hh => h hh.1)]
    exact Ev.ite_neg h (bad _ _ _ _ _)
theorem rest_of_impl (q s : Int) (l : List S53) (f b a e now : Int) : Ev (fun k => impl_FlyRest.f k q s l f b a e now) (restOf q s l f b a e now) := by
  unfold impl_FlyRest.f restOf
  refine Ev.bind (impl_pathOk q s l f b) ?_
  by_cases h : pathOk q s l f b = true
  · refine Ev.ite_pos h ?_
    have hf := pathOk_facts h
    by_cases hc : 0 ≤ a ∧ a < (l.length : Int) ∧ 0 ≤ e ∧ e ≤ now ∧ now ≤ 10000
    · rw [if_pos ⟨h, hc⟩]
      obtain ⟨m, rfl⟩ : ∃ m : Nat, a = (m : Int) := ⟨a.toNat, by omega⟩
      rw [Int.toNat_natCast]
      have hs := (stepOk_iff _).1 (hf.2.2.2 m (by omega))
      have r : RestOk l f b m (max (rd_T53 l (m : Int)).f4 e) (min (rd_T53 l (m : Int)).f5 e) now := ⟨by omega, by omega, by omega, by omega, by omega, by omega, by omega⟩
      refine Ev.ite_neg (by omega) (Ev.ite_neg (by omega) (Ev.ite_neg (by omega) (Ev.ite_neg (by omega) (Ev.ite_neg (by omega) (Ev.ite_pos (by omega) (Ev.ite_pos (by omega) ?_))))))
      rw [mx_max, mn_min]
      exact Ev.bind (rest_impl h r) (Ev.val _)
    · rw [if_neg (fun hh => hc hh.2)]
      by_cases h1 : a < 0
      · exact Ev.ite_pos h1 (Ev.val _)
      · refine Ev.ite_neg h1 ?_
        by_cases h2 : a ≥ (l.length : Int)
        · exact Ev.ite_pos h2 (Ev.val _)
        · refine Ev.ite_neg h2 ?_
          by_cases h3 : now > 10000
          · exact Ev.ite_pos h3 (Ev.val _)
          · refine Ev.ite_neg h3 ?_
            by_cases h4 : e < 0
            · exact Ev.ite_pos h4 (Ev.val _)
            · exact Ev.ite_neg h4 (Ev.ite_pos (by omega) (Ev.val _))
  · rw [if_neg (fun hh => h hh.1)]
    exact Ev.ite_neg h (Ev.val _)
def eqAt (l l' : List S53) (i : Int) : Bool := (((rd_T53 l i).f0) == ((rd_T53 l' i).f0) && (((rd_T53 l i).f1) == ((rd_T53 l' i).f1) && (((rd_T53 l i).f2) == ((rd_T53 l' i).f2) && (((rd_T53 l i).f3) == ((rd_T53 l' i).f3) && (((rd_T53 l i).f4) == ((rd_T53 l' i).f4) && (((rd_T53 l i).f5) == ((rd_T53 l' i).f5) && (((rd_T53 l i).f6) == ((rd_T53 l' i).f6))))))))
def sharedN (P : Nat → Bool) (m : Nat) : Int := findN (fun j => !P j) (fun j => (j : Int)) (m : Int) m 0
theorem spec_shared (q s : Int) (l : List S53) (f b q' s' : Int) (l' : List S53) (f' b' : Int) (hl : l.length ≤ 1048576) (hl' : l'.length ≤ 1048576) :
    Ev (fun k => spec_FlyShared.f k q s l f b q' s' l' f' b') (sharedN (fun j => eqAt l l' (j : Int) && (q == q' && (s == s'))) (min l.length l'.length)) := by
  have round : ∀ i : Nat, i < min l.length l'.length → ∀ k, spec_FlyShared.l0 (k + 1) (i : Int) q s l f b q' s' l' f' b' = if (eqAt l l' (i : Int) && (q == q' && (s == s'))) = true then spec_FlyShared.l0 k ((i : Int) + 1) q s l f b q' s' l' f' b' else some (i : Int) := by
    intro i hi k
    have e : eqAt l l' (i : Int) = _ := rfl
    unfold eqAt at e
    simp only [spec_FlyShared.l0]
    rw [if_pos (show (i : Int) < (l.length : Int) by omega), if_pos (show (i : Int) < (l'.length : Int) by omega), if_pos (show (0 : Int) ≤ i by omega), w64 (show -9223372036854775808 ≤ (i : Int) + 1 by omega) (by omega)]
    show (if eqAt l l' (i : Int) = true then (if (q == q' && (s == s')) = true then spec_FlyShared.l0 k ((i : Int) + 1) q s l f b q' s' l' f' b' else some (i : Int)) else some (i : Int)) = _
    cases eqAt l l' (i : Int) <;> cases (q == q' && (s == s')) <;> rfl
  unfold spec_FlyShared.f sharedN
  refine find_loop (F := fun k i => spec_FlyShared.l0 k i q s l f b q' s' l' f' b') (min l.length l'.length) (fun j => !(eqAt l l' (j : Int) && (q == q' && (s == s')))) (fun j => (j : Int)) _ ?_ ?_ ?_ (min l.length l'.length) 0 (by omega)
  · intro i hi hp
    have hp' : (!(eqAt l l' (i : Int) && (q == q' && (s == s')))) = true := hp
    exact Ev.step (round i hi) (Ev.ite_neg (fun hc => by rw [hc] at hp'; cases hp') (Ev.val _))
  · intro i hi hp r' hr
    have hp' : (!(eqAt l l' (i : Int) && (q == q' && (s == s')))) = false := hp
    exact Ev.step (round i hi) (Ev.ite_pos (by revert hp'; cases (eqAt l l' (i : Int) && (q == q' && (s == s'))) <;> simp) hr)
  · refine Ev.step (fun k => ?_) (Ev.val _)
    simp only [spec_FlyShared.l0]
    by_cases h : l.length ≤ l'.length
    · rw [if_neg (by omega)]
    · rw [if_pos (by omega), if_neg (by omega)]
theorem impl_shared (q s : Int) (l : List S53) (f b q' s' : Int) (l' : List S53) (f' b' : Int) (hl : l.length ≤ 1048576) (hl' : l'.length ≤ 1048576) :
    Ev (fun k => impl_FlyShared.f k q s l f b q' s' l' f' b') (sharedN (fun j => eqAt l l' (j : Int) && (q == q' && (s == s'))) (min l.length l'.length)) := by
  have round : ∀ i : Nat, i < min l.length l'.length → ∀ k, impl_FlyShared.l0 (k + 1) (i : Int) q s l f b q' s' l' f' b' = if eqAt l l' (i : Int) = true then impl_FlyShared.l0 k ((i : Int) + 1) q s l f b q' s' l' f' b' else some (i : Int) := by
    intro i hi k
    simp only [impl_FlyShared.l0]
    rw [if_pos (show (i : Int) < (l.length : Int) by omega), if_pos (show (i : Int) < (l'.length : Int) by omega), if_pos (show (0 : Int) ≤ i by omega), w64 (show -9223372036854775808 ≤ (i : Int) + 1 by omega) (by omega)]
    rfl
  unfold impl_FlyShared.f sharedN
  by_cases hk : (q == q' && (s == s')) = true
  · refine Ev.ite_pos hk ?_
    simp only [hk, Bool.and_true]
    refine find_loop (F := fun k i => impl_FlyShared.l0 k i q s l f b q' s' l' f' b') (min l.length l'.length) (fun j => !eqAt l l' (j : Int)) (fun j => (j : Int)) _ ?_ ?_ ?_ (min l.length l'.length) 0 (by omega)
    · intro i hi hp
      exact Ev.step (round i hi) (Ev.ite_neg (by simpa using hp) (Ev.val _))
    · intro i hi hp r' hr
      exact Ev.step (round i hi) (Ev.ite_pos (by simpa using hp) hr)
    · refine Ev.step (fun k => ?_) (Ev.val _)
      simp only [impl_FlyShared.l0]
      by_cases h : l.length ≤ l'.length
      · rw [if_neg (by omega)]
      · rw [if_pos (by omega), if_neg (by omega)]
  · refine Ev.ite_neg hk (Ev.cast (Ev.val _) ?_)
    have hk := Bool.eq_false_iff.2 hk
    simp only [hk, Bool.and_false, Bool.not_false]
    cases min l.length l'.length with
    | zero => rfl
    | succ m => rfl
/-! #### whether one who is seen may turn -/
theorem seen_ok {q s : Int} {l : List S53} {f b a now : Int} (ho : (seenOf q s l f b a now).2.2.2.2.2 = true) :
    pathOk (seenOf q s l f b a now).1 (seenOf q s l f b a now).2.1 (seenOf q s l f b a now).2.2.1 (seenOf q s l f b a now).2.2.2.1 (seenOf q s l f b a now).2.2.2.2.1 = true ∧
    seenOk (seenOf q s l f b a now).1 (seenOf q s l f b a now).2.1 (seenOf q s l f b a now).2.2.1 (seenOf q s l f b a now).2.2.2.1 (seenOf q s l f b a now).2.2.2.2.1 = true := by
  revert ho
  unfold seenOf
  by_cases hc : pathOk q s l f b = true ∧ 0 ≤ a ∧ a < (l.length : Int) ∧ 0 ≤ now ∧ now ≤ 10000 ∧ seenOk q s l f b = true
  · rw [if_pos hc]
    obtain ⟨h, h1, h2, h3, h4, h5⟩ := hc
    have r := seen_rest h h5 (m := a.toNat) (now := now) (by omega) h3 h4
    unfold canOf
    split
    · rename_i hok
      intro _
      refine ⟨rest_pathOk h r (spansR_ok hok), ?_⟩
      unfold spansR at hok
      unfold seenOk
      split at hok
      · assumption
      · cases hok
    · intro e; cases e
  · rw [if_neg hc]
    intro e; cases e
/-- Whether it may turn at the first tick of a span, and at the last. -/
def mayR (sp : List S55) (q s : Int) (l : List S53) (f b a now : Int) : Bool := if (restOf q s l f b a ((rd_T55 sp 0).f0) now).2.2.2.2.2 = true then (restOf q s l f b a ((rd_T55 sp 0).f1) now).2.2.2.2.2 else false
def spansAt (q s : Int) (l : List S53) (f b : Int) : List S55 := (spansR idw (fun k => loAt l f k) (fun k => hiAt l b k) q s (holdAt l) l.length).1
theorem spansAt_length {q s : Int} {l : List S53} {f b : Int} (ho : seenOk q s l f b = true) : 0 < ((spansAt q s l f b).length : Int) := by
  unfold spansAt spansR
  unfold seenOk at ho
  rw [if_pos ho]
  show 0 < ((tab _ _).length : Int)
  rw [tab_length]
  omega
def mayOf (q s : Int) (l : List S53) (f b q' s' : Int) (l' : List S53) (f' b' a now : Int) : Bool :=
  if (seenOf q s l f b a now).2.2.2.2.2 = true then
    (if pathOk q' s' l' f' b' = true then
      (if sharedN (fun j => eqAt l l' (j : Int) && (q == q' && (s == s'))) (min l.length l'.length) ≤ a then false
       else mayR (spansAt (seenOf q s l f b a now).1 (seenOf q s l f b a now).2.1 (seenOf q s l f b a now).2.2.1 (seenOf q s l f b a now).2.2.2.1 (seenOf q s l f b a now).2.2.2.2.1) q' s' l' f' b' a now)
     else false)
  else false
theorem may_spec_j (a now q' s' : Int) (l' : List S53) (f' b' : Int) {Q S : Int} {L : List S53} {F B : Int} (h : pathOk Q S L F B = true) (ho : seenOk Q S L F B = true) :
    Ev (fun k => spec_FlyMayTurn.j0 k a now false q' s' l' f' b' Q S L F B) (mayR (spansAt Q S L F B) q' s' l' f' b' a now) := by
  refine Ev.succ ?_
  simp only [spec_FlyMayTurn.j0]
  have hp := spansAt_length ho
  refine Ev.ite_neg (by decide) (Ev.bind (spec_spans_ok h) (Ev.ite_pos hp (Ev.bind (rest_spec q' s' l' f' b' a _ now) (Ev.bind (rest_spec q' s' l' f' b' a _ now) ?_))))
  unfold mayR
  show Ev (fun k => if (restOf q' s' l' f' b' a ((rd_T55 (spansAt Q S L F B) 0).f0) now).2.2.2.2.2 = true then some (restOf q' s' l' f' b' a ((rd_T55 (spansAt Q S L F B) 0).f1) now).2.2.2.2.2 else some false) _
  split <;> exact Ev.val _
theorem may_impl_j (a now q' s' : Int) (l' : List S53) (f' b' : Int) {Q S : Int} {L : List S53} {F B : Int} (h : pathOk Q S L F B = true) (ho : seenOk Q S L F B = true) :
    Ev (fun k => impl_FlyMayTurn.j0 k a now false q' s' l' f' b' Q S L F B) (mayR (spansAt Q S L F B) q' s' l' f' b' a now) := by
  refine Ev.succ ?_
  simp only [impl_FlyMayTurn.j0]
  have hp := spansAt_length ho
  have hl := impl_law Q S L F B
  unfold spansOf at hl
  rw [if_pos h] at hl
  refine Ev.ite_neg (by decide) (Ev.bind hl (Ev.ite_pos hp (Ev.bind (rest_of_impl q' s' l' f' b' a _ now) (Ev.bind (rest_of_impl q' s' l' f' b' a _ now) ?_))))
  unfold mayR
  show Ev (fun k => if (restOf q' s' l' f' b' a ((rd_T55 (spansAt Q S L F B) 0).f0) now).2.2.2.2.2 = true then some (restOf q' s' l' f' b' a ((rd_T55 (spansAt Q S L F B) 0).f1) now).2.2.2.2.2 else some false) _
  split <;> exact Ev.val _
theorem may_spec (q s : Int) (l : List S53) (f b q' s' : Int) (l' : List S53) (f' b' a now : Int) (hl : l.length ≤ 1048576) (hl' : l'.length ≤ 1048576) :
    Ev (fun k => spec_FlyMayTurn.f k q s l f b q' s' l' f' b' a now) (mayOf q s l f b q' s' l' f' b' a now) := by
  have bad : ∀ q' s' l' f' b' Q S L F B, Ev (fun k => spec_FlyMayTurn.j0 k a now true q' s' l' f' b' Q S L F B) false := fun q' s' l' f' b' Q S L F B => Ev.step (fun k => (by simp only [spec_FlyMayTurn.j0]; exact if_pos trivial)) (Ev.val _)
  unfold spec_FlyMayTurn.f mayOf
  refine Ev.bind (seen_spec q s l f b a now) ?_
  by_cases ho : (seenOf q s l f b a now).2.2.2.2.2 = true
  · rw [if_pos ho]
    refine Ev.ite_pos ho (Ev.bind (spec_pathOk q' s' l' f' b') ?_)
    have hs := seen_ok ho
    by_cases h : pathOk q' s' l' f' b' = true
    · rw [if_pos h]
      refine Ev.ite_pos h (Ev.bind (spec_shared q s l f b q' s' l' f' b' hl hl') ?_)
      by_cases hd : sharedN (fun j => eqAt l l' (j : Int) && (q == q' && (s == s'))) (min l.length l'.length) ≤ a
      · rw [if_pos hd, decide_eq_true hd]
        exact bad _ _ _ _ _ _ _ _ _ _
      · rw [if_neg hd, decide_eq_false hd]
        exact may_spec_j a now q' s' l' f' b' hs.1 hs.2
    · rw [if_neg h]
      exact Ev.ite_neg h (bad _ _ _ _ _ _ _ _ _ _)
  · rw [if_neg ho]
    exact Ev.ite_neg ho (bad _ _ _ _ _ _ _ _ _ _)
theorem may_impl (q s : Int) (l : List S53) (f b q' s' : Int) (l' : List S53) (f' b' a now : Int) (hl : l.length ≤ 1048576) (hl' : l'.length ≤ 1048576) :
    Ev (fun k => impl_FlyMayTurn.f k q s l f b q' s' l' f' b' a now) (mayOf q s l f b q' s' l' f' b' a now) := by
  have bad : ∀ q' s' l' f' b' Q S L F B, Ev (fun k => impl_FlyMayTurn.j0 k a now true q' s' l' f' b' Q S L F B) false := fun q' s' l' f' b' Q S L F B => Ev.step (fun k => (by simp only [impl_FlyMayTurn.j0]; exact if_pos trivial)) (Ev.val _)
  unfold impl_FlyMayTurn.f mayOf
  refine Ev.bind (seen_impl q s l f b a now) ?_
  by_cases ho : (seenOf q s l f b a now).2.2.2.2.2 = true
  · rw [if_pos ho]
    refine Ev.ite_pos ho (Ev.bind (impl_pathOk q' s' l' f' b') ?_)
    have hs := seen_ok ho
    by_cases h : pathOk q' s' l' f' b' = true
    · rw [if_pos h]
      refine Ev.ite_pos h (Ev.bind (impl_shared q s l f b q' s' l' f' b' hl hl') ?_)
      by_cases hd : sharedN (fun j => eqAt l l' (j : Int) && (q == q' && (s == s'))) (min l.length l'.length) ≤ a
      · rw [if_pos hd, decide_eq_true hd]
        exact bad _ _ _ _ _ _ _ _ _ _
      · rw [if_neg hd, decide_eq_false hd]
        exact may_impl_j a now q' s' l' f' b' hs.1 hs.2
    · rw [if_neg h]
      exact Ev.ite_neg h (bad _ _ _ _ _ _ _ _ _ _)
  · rw [if_neg ho]
    exact Ev.ite_neg ho (bad _ _ _ _ _ _ _ _ _ _)
/-! #### the tube of a path -/
theorem rd_nth (x : List S55) (i : Nat) (h : i < x.length) : rd_T55 x (i : Int) = x[i] := by
  show x.getD ((i : Int)).toNat _ = x[i]
  rw [Int.toNat_natCast, List.getD_eq_getElem?_getD, List.getElem?_eq_getElem h]; rfl
def boxOf (x : S53) (L H : Int) : S45 := ⟨x.f0, x.f1, x.f2, x.f3, L, H - 1⟩
theorem rd_nthS (x : List S53) (i : Nat) (h : i < x.length) : rd_T53 x (i : Int) = x[i] := by
  show x.getD ((i : Int)).toNat _ = x[i]
  rw [Int.toNat_natCast, List.getD_eq_getElem?_getD, List.getElem?_eq_getElem h]; rfl
def tubeRow (l : List S53) (x : List S55) (n : Nat) : List S45 := tab n (fun j => (⟨(rd_T53 l (j : Int)).f0, (rd_T53 l (j : Int)).f1, (rd_T53 l (j : Int)).f2, (rd_T53 l (j : Int)).f3, (rd_T55 x (j : Int)).f0, wrap64 ((rd_T55 x ((j + 1 : Nat) : Int)).f1 - 1)⟩ : S45))
theorem spec_list (q s : Int) (l : List S53) (f b : Int) (x : List S55) (hx : x.length = l.length + 1) (hl : l.length ≤ 1048576) : Ev (fun k => spec_FlyTube.l0 k [] x true 0 q s l f b) (tubeRow l x l.length) := by
  have loop : ∀ d i : Nat, i + d = l.length → Ev (fun k => spec_FlyTube.l0 k (tubeRow l x i) x true (i : Int) q s l f b) (tubeRow l x l.length) := by
    intro d
    induction d with
    | zero =>
      intro i hi
      refine Ev.succ ?_
      simp only [spec_FlyTube.l0]
      refine Ev.ite_pos trivial (Ev.ite_neg (by omega) (Ev.cast (Ev.val _) ?_))
      rw [show i = l.length by omega]
    | succ d ih =>
      intro i hi
      refine Ev.succ ?_
      simp only [spec_FlyTube.l0]
      rw [w64 (show -9223372036854775808 ≤ (i : Int) + 1 by omega) (by omega)]
      refine Ev.ite_pos trivial (Ev.ite_pos (by omega) (Ev.ite_pos (by omega) (Ev.ite_pos (by omega) (Ev.ite_pos (by omega) (Ev.ite_pos (by omega) (Ev.ite_pos (by unfold tubeRow; rw [tab_length]; omega) ?_))))))
      have := ih (i + 1) (by omega)
      rw [show tubeRow l x (i + 1) = tubeRow l x i ++ [(⟨(rd_T53 l (i : Int)).f0, (rd_T53 l (i : Int)).f1, (rd_T53 l (i : Int)).f2, (rd_T53 l (i : Int)).f3, (rd_T55 x (i : Int)).f0, wrap64 ((rd_T55 x ((i + 1 : Nat) : Int)).f1 - 1)⟩ : S45)] from (tab_snoc i _).symm] at this
      exact this
  exact loop l.length 0 (by omega)
theorem impl_list (l : List S53) (x : List S55) (hx : x.length = l.length + 1) (hl : l.length ≤ 1048576) : Ev (fun k => impl_FlyTube.l0 k x [] l (l.length : Int) 0) (tubeRow l x l.length) := by
  have loop : ∀ d i : Nat, i + d = l.length → Ev (fun k => impl_FlyTube.l0 k x (tubeRow l x i) l (l.length : Int) (i : Int)) (tubeRow l x l.length) := by
    intro d
    induction d with
    | zero =>
      intro i hi
      refine Ev.succ ?_
      simp only [impl_FlyTube.l0]
      refine Ev.ite_neg (by omega) (Ev.cast (Ev.val _) ?_)
      rw [show i = l.length by omega]
    | succ d ih =>
      intro i hi
      refine Ev.succ ?_
      simp only [impl_FlyTube.l0]
      rw [w64 (show -9223372036854775808 ≤ (i : Int) + 1 by omega) (by omega)]
      refine Ev.ite_pos (by omega) (Ev.ite_pos (by omega) (Ev.ite_pos (by omega) (Ev.ite_pos (by omega) (Ev.ite_pos (by omega) (Ev.ite_pos (by omega) (Ev.ite_pos (by unfold tubeRow; rw [tab_length]; omega) ?_))))))
      have := ih (i + 1) (by omega)
      rw [show tubeRow l x (i + 1) = tubeRow l x i ++ [(⟨(rd_T53 l (i : Int)).f0, (rd_T53 l (i : Int)).f1, (rd_T53 l (i : Int)).f2, (rd_T53 l (i : Int)).f3, (rd_T55 x (i : Int)).f0, wrap64 ((rd_T55 x ((i + 1 : Nat) : Int)).f1 - 1)⟩ : S45)] from (tab_snoc i _).symm] at this
      exact this
  exact loop l.length 0 (by omega)
def listOf (q s : Int) (l : List S53) (f b : Int) : List S45 := if (spansOf q s l f b).2 = true then tubeRow l (spansOf q s l f b).1 l.length else []
theorem spansOf_full (q s : Int) (l : List S53) (f b : Int) (h : (spansOf q s l f b).2 = true) : (spansOf q s l f b).1.length = l.length + 1 := by
  unfold spansOf spansR at h ⊢
  by_cases h1 : pathOk q s l f b = true
  · simp only [h1, if_true] at h ⊢
    split at h
    · rename_i h2
      rw [if_pos h2]
      exact tab_length _ _
    · cases h
  · rw [if_neg h1] at h; cases h
theorem spec_all (q s : Int) (l : List S53) (f b : Int) : Ev (fun k => spec_FlyTube.f k q s l f b) (listOf q s l f b) := by
  have hn := spansOf_length q s l f b
  unfold spec_FlyTube.f listOf
  refine Ev.bind (spec_law q s l f b) ?_
  by_cases h : (spansOf q s l f b).2 = true
  · have := spansOf_full q s l f b h
    rw [if_pos h, h]
    exact spec_list q s l f b _ this (by omega)
  · rw [if_neg h, Bool.eq_false_iff.2 h]
    refine Ev.succ ?_
    simp only [spec_FlyTube.l0]
    exact Ev.ite_neg (by decide) (Ev.val _)
theorem impl_all (q s : Int) (l : List S53) (f b : Int) : Ev (fun k => impl_FlyTube.f k q s l f b) (listOf q s l f b) := by
  have hn := spansOf_length q s l f b
  unfold impl_FlyTube.f listOf
  refine Ev.bind (impl_law q s l f b) ?_
  by_cases h : (spansOf q s l f b).2 = true
  · have := spansOf_full q s l f b h
    rw [if_pos h]
    exact Ev.ite_pos h (impl_list l _ this (by omega))
  · rw [if_neg h]
    exact Ev.ite_neg h (Ev.val _)
theorem listOf_length (q s : Int) (l : List S53) (f b : Int) : (listOf q s l f b).length ≤ 41 := by
  have hn := spansOf_length q s l f b
  unfold listOf
  by_cases h : (spansOf q s l f b).2 = true
  · have := spansOf_full q s l f b h
    rw [if_pos h]
    unfold tubeRow
    rw [tab_length]; omega
  · rw [if_neg h]; exact Nat.zero_le _
/-! #### until when one may turn -/
def all28 (W M : Nat → Bool) : Nat → Nat → Bool → Bool
  | 0, _, fl => fl
  | d + 1, i, fl => if W i = true then (if M i = true then all28 W M d (i + 1) true else false) else all28 W M d (i + 1) fl
def winAt (x : List S45) (t : Int) (j : Nat) : Bool := decide ((rd_T45 x (j : Int)).f4 ≤ t ∧ t ≤ (rd_T45 x (j : Int)).f5)
def bestAt (from_ t : Int) : Int := if t = from_ then -1 else t - 1
def lastAt (A : Int → Bool) (from_ : Int) : Nat → Int → Int
  | 0, t => bestAt from_ t
  | d + 1, t => if A t = true then lastAt A from_ d (t + 1) else bestAt from_ t
theorem if_cond (v : Bool) (A B : Int) : (if v = true then A else B) = cond v A B := by cases v <;> rfl
section
variable (q s : Int) (l : List S53) (f b q' s' : Int) (l' : List S53) (f' b' : Int)
def mayAt (t : Int) (j : Nat) : Bool := mayOf q s l f b q' s' l' f' b' (j : Int) t
def allAt (x : List S45) (t : Int) : Bool := all28 (winAt x t) (mayAt q s l f b q' s' l' f' b' t) x.length 0 false
theorem all_spec (hl : l.length ≤ 1048576) (hl' : l'.length ≤ 1048576) (x : List S45) (hx : x.length ≤ 1048576) (t : Int) : Ev (fun k => spec_l28All.f k q s l f b q' s' l' f' b' x t) (allAt q s l f b q' s' l' f' b' x t) := by
  unfold spec_l28All.f allAt
  have go : ∀ (d i : Nat) (fl : Bool), i + d = x.length → Ev (fun k => spec_l28All.l0 k x t fl (i : Int) q s l f b q' s' l' f' b') (all28 (winAt x t) (mayAt q s l f b q' s' l' f' b' t) d i fl) := by
    intro d
    induction d with
    | zero =>
      intro i fl hi
      refine Ev.succ ?_
      simp only [spec_l28All.l0]
      exact Ev.ite_neg (by omega) (Ev.val _)
    | succ d ih =>
      intro i fl hi
      have h1 := ih (i + 1) true (by omega)
      have h2 := ih (i + 1) fl (by omega)
      rw [show (((i + 1 : Nat)) : Int) = (i : Int) + 1 by omega] at h1 h2
      refine Ev.succ ?_
      simp only [spec_l28All.l0, spec_in, Option.bind_some]
      rw [w64 (show -9223372036854775808 ≤ (i : Int) + 1 by omega) (by omega)]
      refine Ev.ite_pos (by omega) (Ev.ite_pos (by omega) ?_)
      simp only [all28]
      by_cases hw : winAt x t i = true
      · rw [if_pos hw]
        refine Ev.ite_pos hw (Ev.bind (may_spec q s l f b q' s' l' f' b' (i : Int) t hl hl') ?_)
        by_cases hm : mayAt q s l f b q' s' l' f' b' t i = true
        · rw [if_pos hm]
          exact Ev.ite_pos hm h1
        · rw [if_neg hm]
          exact Ev.ite_neg hm (Ev.val _)
      · rw [if_neg hw]
        exact Ev.ite_neg hw h2
  exact go x.length 0 false (by omega)
theorem last_spec (hl : l.length ≤ 1048576) (hl' : l'.length ≤ 1048576) (x : List S45) (hx : x.length ≤ 1048576) (from_ : Int) (h0 : 0 ≤ from_) : ∀ (d : Nat) (t : Int), 0 ≤ t → t + (d : Int) = 10001 → Ev (fun k => spec_FlyTurnBy.l0 k from_ x t q s l f b q' s' l' f' b') (lastAt (allAt q s l f b q' s' l' f' b' x) from_ d t) := by
  intro d
  have fin : ∀ t : Int, 0 ≤ t → t ≤ 10001 → Ev (fun _ => if t = from_ then some (-1) else some (wrap64 (t - 1))) (bestAt from_ t) := by
    intro t ht ht2
    unfold bestAt
    rw [w64 (show -9223372036854775808 ≤ t - 1 by omega) (by omega)]
    split <;> exact Ev.val _
  induction d with
  | zero =>
    intro t ht hd
    refine Ev.succ ?_
    simp only [spec_FlyTurnBy.l0]
    exact Ev.ite_neg (by omega) (fin t ht (by omega))
  | succ d ih =>
    intro t ht hd
    refine Ev.succ ?_
    simp only [spec_FlyTurnBy.l0, lastAt]
    refine Ev.ite_pos (by omega) (Ev.bind (all_spec q s l f b q' s' l' f' b' hl hl' x hx t) ?_)
    by_cases ha : allAt q s l f b q' s' l' f' b' x t = true
    · rw [if_pos ha, w64 (show -9223372036854775808 ≤ t + 1 by omega) (by omega)]
      exact Ev.ite_pos ha (ih (t + 1) (by omega) (by omega))
    · rw [if_neg ha]
      exact Ev.ite_neg ha (fin t ht (by omega))
theorem last_impl (hl : l.length ≤ 1048576) (hl' : l'.length ≤ 1048576) (x : List S45) (hx : x.length ≤ 1048576) (from_ : Int) (h0 : 0 ≤ from_) : ∀ (d : Nat) (t : Int), from_ ≤ t → t + (d : Int) = 10001 → Ev (fun k => impl_FlyTurnBy.l0 k x (bestAt from_ t) t q s l f b q' s' l' f' b') (lastAt (allAt q s l f b q' s' l' f' b' x) from_ d t) := by
  intro d
  induction d with
  | zero =>
    intro t ht hd
    refine Ev.succ ?_
    simp only [impl_FlyTurnBy.l0]
    exact Ev.ite_neg (by omega) (Ev.val _)
  | succ d ih =>
    intro t ht hd
    have next := ih (t + 1) (by omega) (by omega)
    have hb : bestAt from_ (t + 1) = t := by
      unfold bestAt
      rw [if_neg (by omega)]
      omega
    rw [hb] at next
    refine Ev.succ ?_
    simp only [impl_FlyTurnBy.l0, lastAt]
    refine Ev.ite_pos (by omega) ?_
    have go : ∀ (e i : Nat) (fl : Bool), i + e = x.length → Ev (fun k => impl_FlyTurnBy.l1 k x (bestAt from_ t) t fl x (x.length : Int) (i : Int) q s l f b q' s' l' f' b') (cond (all28 (winAt x t) (mayAt q s l f b q' s' l' f' b' t) e i fl) (lastAt (allAt q s l f b q' s' l' f' b' x) from_ d (t + 1)) (bestAt from_ t)) := by
      intro e
      induction e with
      | zero =>
        intro i fl hi
        refine Ev.succ ?_
        simp only [impl_FlyTurnBy.l1, all28]
        refine Ev.ite_neg (by omega) ?_
        rw [w64 (show -9223372036854775808 ≤ t + 1 by omega) (by omega)]
        cases fl with
        | true => exact Ev.ite_pos rfl next
        | false => exact Ev.ite_neg (by decide) (Ev.val _)
      | succ e ihe =>
        intro i fl hi
        have h1 := ihe (i + 1) true (by omega)
        have h2 := ihe (i + 1) fl (by omega)
        rw [show (((i + 1 : Nat)) : Int) = (i : Int) + 1 by omega] at h1 h2
        have j3 : Ev (fun k => impl_FlyTurnBy.j3 k x (bestAt from_ t) t fl (i : Int) x (x.length : Int) (i : Int) (winAt x t i) q s l f b q' s' l' f' b') (cond (all28 (winAt x t) (mayAt q s l f b q' s' l' f' b' t) (e + 1) i fl) (lastAt (allAt q s l f b q' s' l' f' b' x) from_ d (t + 1)) (bestAt from_ t)) := by
          refine Ev.succ ?_
          simp only [impl_FlyTurnBy.j3, all28]
          rw [w64 (show -9223372036854775808 ≤ (i : Int) + 1 by omega) (by omega)]
          by_cases hw : winAt x t i = true
          · rw [if_pos hw]
            refine Ev.ite_pos hw (Ev.bind (may_impl q s l f b q' s' l' f' b' (i : Int) t hl hl') ?_)
            by_cases hm : mayAt q s l f b q' s' l' f' b' t i = true
            · rw [if_pos hm]
              exact Ev.ite_pos hm h1
            · rw [if_neg hm]
              exact Ev.ite_neg hm (Ev.val _)
          · rw [if_neg hw]
            exact Ev.ite_neg hw h2
        refine Ev.succ ?_
        simp only [impl_FlyTurnBy.l1]
        refine Ev.ite_pos (by omega) (Ev.ite_pos (by omega) (Ev.ite_pos (by omega) ?_))
        unfold winAt at j3
        by_cases c : (rd_T45 x (i : Int)).f4 ≤ t
        · refine Ev.ite_pos c ?_
          rw [show decide ((rd_T45 x (i : Int)).f4 ≤ t ∧ t ≤ (rd_T45 x (i : Int)).f5) = decide (t ≤ (rd_T45 x (i : Int)).f5) from by simp [c]] at j3
          exact j3
        · refine Ev.ite_neg c ?_
          rw [show decide ((rd_T45 x (i : Int)).f4 ≤ t ∧ t ≤ (rd_T45 x (i : Int)).f5) = false from by simp [c]] at j3
          exact j3
    have h := go x.length 0 false (by omega)
    refine Ev.cast h (if_cond _ _ _).symm
def turnOf (from_ : Int) : Int := if 0 ≤ from_ ∧ from_ ≤ 10000 then (if pathOk q' s' l' f' b' = true then lastAt (allAt q s l f b q' s' l' f' b' (listOf q s l f b)) from_ (10001 - from_).toNat from_ else -1) else -1
theorem turn_spec (hl : l.length ≤ 1048576) (hl' : l'.length ≤ 1048576) (from_ : Int) : Ev (fun k => spec_FlyTurnBy.f k q s l f b q' s' l' f' b' from_) (turnOf q s l f b q' s' l' f' b' from_) := by
  have bad : ∀ x, Ev (fun k => spec_FlyTurnBy.j0 k from_ x true q s l f b q' s' l' f' b') (-1) := fun x => Ev.step (fun k => (by simp only [spec_FlyTurnBy.j0]; exact if_pos trivial)) (Ev.val _)
  have hn := listOf_length q s l f b
  unfold spec_FlyTurnBy.f turnOf
  simp only [spec_in]
  refine Ev.bind (spec_all q s l f b) ?_
  simp only [Option.bind_some]
  by_cases h : 0 ≤ from_ ∧ from_ ≤ 10000
  · rw [if_pos h]
    refine Ev.ite_pos (decide_eq_true h) (Ev.bind (spec_pathOk q' s' l' f' b') ?_)
    by_cases hp : pathOk q' s' l' f' b' = true
    · rw [if_pos hp, hp]
      refine Ev.succ ?_
      simp only [spec_FlyTurnBy.j0]
      exact Ev.ite_neg (by decide) (last_spec q s l f b q' s' l' f' b' hl hl' (listOf q s l f b) (by omega) from_ h.1 (10001 - from_).toNat from_ h.1 (by omega))
    · rw [if_neg hp, Bool.eq_false_iff.2 hp]
      exact bad _
  · rw [if_neg h]
    exact Ev.ite_neg (fun hh => h (of_decide_eq_true hh)) (bad _)
theorem turn_impl (hl : l.length ≤ 1048576) (hl' : l'.length ≤ 1048576) (from_ : Int) : Ev (fun k => impl_FlyTurnBy.f k q s l f b q' s' l' f' b' from_) (turnOf q s l f b q' s' l' f' b' from_) := by
  have bad : Ev (fun k => impl_FlyTurnBy.j0 k from_ true q s l f b q' s' l' f' b') (-1) := Ev.step (fun k => (by simp only [impl_FlyTurnBy.j0]; exact if_pos trivial)) (Ev.val _)
  have hn := listOf_length q s l f b
  have win : impl_within.f from_ 0 10000 = some (decide (0 ≤ from_ ∧ from_ ≤ 10000)) := by
    unfold impl_within.f
    by_cases h : from_ ≥ 0 <;> simp [h]
  unfold impl_FlyTurnBy.f turnOf
  rw [win]
  simp only [Option.bind_some]
  by_cases h : 0 ≤ from_ ∧ from_ ≤ 10000
  · rw [if_pos h]
    refine Ev.ite_pos (decide_eq_true h) (Ev.bind (impl_pathOk q' s' l' f' b') ?_)
    by_cases hp : pathOk q' s' l' f' b' = true
    · rw [if_pos hp, hp]
      refine Ev.succ ?_
      simp only [impl_FlyTurnBy.j0]
      have h1 := last_impl q s l f b q' s' l' f' b' hl hl' (listOf q s l f b) (by omega) from_ h.1 (10001 - from_).toNat from_ (Int.le_refl _) (by omega)
      rw [show bestAt from_ from_ = -1 from if_pos rfl] at h1
      exact Ev.ite_neg (by decide) (Ev.bind (impl_all q s l f b) h1)
    · rw [if_neg hp, Bool.eq_false_iff.2 hp]
      exact bad
  · rw [if_neg h]
    exact Ev.ite_neg (fun hh => h (of_decide_eq_true hh)) bad
end
theorem FnExactFlyTurnBy : Said := by
  intro q s l f b q' s' l' f' b' a ⟨_, _, ⟨hm, _⟩, _, _⟩ ⟨_, _, ⟨hm', _⟩, _, _⟩ _
  refine Ev.rounds (r := true) ?_
  unfold laws_FnExactFlyTurnBy.f
  rw [szFlyPath_eq q s l f b hm 1048576 (by omega) (by omega)]
  simp only [Option.bind_some]
  by_cases h : (l.length : Int) ≤ 1048576
  · have hl : l.length ≤ 1048576 := by omega
    have hl1 : (l.map conv_toFlyStepS).length ≤ 1048576 := by rw [List.length_map]; exact hl
    rw [if_pos h]
    refine Ev.ite_neg (by omega) ?_
    rw [szFlyPath_eq q' s' l' f' b' hm' _ (by omega) (by omega)]
    simp only [Option.bind_some]
    by_cases h' : (l'.length : Int) ≤ 1048576 - (l.length : Int)
    · have hl' : l'.length ≤ 1048576 := by omega
      have hl1' : (l'.map conv_toFlyStepS).length ≤ 1048576 := by rw [List.length_map]; exact hl'
      rw [if_pos h']
      refine Ev.ite_neg (by omega) (Ev.bind (toFlyPath_ev q s l f b hl) (Ev.bind (toFlyPath_ev q' s' l' f' b' hl') (Ev.bind (turn_spec q s _ f b q' s' _ f' b' hl1 hl1' a) (Ev.bind (toFlyPath_ev q s l f b hl) (Ev.bind (toFlyPath_ev q' s' l' f' b' hl') (Ev.bind (turn_impl q s _ f b q' s' _ f' b' hl1 hl1' a) (Ev.ite_pos rfl ?_)))))))
      exact Ev.bind (toFlyPath_ev q s l f b hl) (Ev.bind (eqFlyPath_ev _ _ _ _ _ hl1) (Ev.ite_pos rfl (Ev.bind (toFlyPath_ev q' s' l' f' b' hl') (Ev.bind (eqFlyPath_ev _ _ _ _ _ hl1') (Ev.ite_pos rfl (Ev.val _))))))
    · rw [if_neg h']
      exact Ev.ite_pos (by omega) (Ev.val _)
  · rw [if_neg h]
    exact Ev.ite_pos (by omega) (Ev.val _)
end Go.Proofs.Ytglgfgeepdmlbaa.Pure
