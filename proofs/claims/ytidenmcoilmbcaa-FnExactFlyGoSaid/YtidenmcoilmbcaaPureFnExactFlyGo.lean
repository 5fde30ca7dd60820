/-
  The law FnExactFlyGo over numbers and lists: both tell the same flight, entry by entry, or that there is none.
-/
import Derived.Test.YtidenmcoilmbcaaSayFnExactFlyGo
import Derived.Test.YtidenmcoilmbcaaStdFnExactFlyGo
namespace Go.Proofs.Ytidenmcoilmbcaa.Pure
open Go.RowKit Go.Proofs.Ytidenmcoilmbcaa.QFnExactFlyGo Go.Proofs.YtidenmcoilmbcaaW.PrintWords Go.Proofs.Ytidenmcoilmbcaa.Kit Go.Proofs.Ytidenmcoilmbcaa.StdFnExactFlyGo Go.Proofs.Ytidenmcoilmbcaa.SayFnExactFlyGo
set_option linter.unusedSimpArgs false
set_option linter.unusedVariables false
/-! #### the law's own helpers on paths -/
theorem szFlyPath_eq (q s : Int) (l : List S104) (f b : Int) (hm : l.length ≤ 9223372036854775807) (a : Int) (h0 : 0 ≤ a) (ha : a ≤ 1048576) : laws_szFlyPath.f q s l f b a = some (if (l.length : Int) ≤ a then a - l.length else -1) := by
  unfold laws_szFlyPath.f
  rw [szFlyStepS_eq l hm a h0 ha]
  simp only [Option.bind_some]
  by_cases h : (l.length : Int) ≤ a
  · rw [if_pos h, if_neg (by omega)]
  · rw [if_neg h, if_pos (by omega)]
theorem toFlyPath_ev (q s : Int) (l : List S104) (f b : Int) (hm : l.length ≤ 1048576) : Ev (fun k => laws_toFlyPath.f k q s l f b) (q, s, l.map conv_toFlyStepS, f, b) := by
  unfold laws_toFlyPath.f laws_toFlyKind.f
  simp only [Option.bind_some]
  exact Ev.bind (toFlyStepS_ev l hm) (Ev.val _)
theorem eqFlyPath_ev (q s : Int) (l : List S88) (f b : Int) (hm : l.length ≤ 1048576) : Ev (fun k => laws_eqFlyPath.f k q s l f b q s l f b) true := by
  unfold laws_eqFlyPath.f laws_eqFlyKind.f
  simp only [if_true, Option.bind_some]
  exact Ev.bind (eqFlyStepS_ev l hm) (Ev.ite_pos rfl (Ev.val _))
/-! #### a path that is ok, said once -/
def kindOk (q s : Int) : Bool := decide (1 ≤ q ∧ q ≤ s ∧ s ≤ 50)
def winOk (f b : Int) : Bool := decide (0 ≤ f ∧ f ≤ b ∧ b ≤ 10000)
def stepOk (x : S88) : Bool := decide ((0 ≤ x.f0 ∧ x.f0 ≤ 15) ∧ (0 ≤ x.f1 ∧ x.f1 ≤ 15) ∧ (0 ≤ x.f2 ∧ x.f2 ≤ x.f3 ∧ x.f3 ≤ 6) ∧ 0 ≤ x.f4 ∧ x.f4 ≤ x.f5 ∧ x.f5 ≤ 10000)
def nextOk (a x : S88) : Bool := decide ((-1 ≤ a.f0 - x.f0 ∧ a.f0 - x.f0 ≤ 1) ∧ (-1 ≤ a.f1 - x.f1 ∧ a.f1 - x.f1 ≤ 1) ∧ (a.f0 = x.f0 → a.f1 ≠ x.f1) ∧ a.f2 ≤ x.f3 ∧ x.f2 ≤ a.f3)
def placeOk (l : List S88) (j : Nat) : Bool := stepOk (rd_T88 l (j : Int)) && (decide (j = 0) || nextOk (rd_T88 l ((j : Int) - 1)) (rd_T88 l (j : Int)))
def pathOk (q s : Int) (l : List S88) (f b : Int) : Bool := kindOk q s && (decide (1 ≤ l.length ∧ l.length ≤ 40) && (winOk f b && allN (placeOk l) l.length 0))
theorem stepOk_iff (x : S88) : stepOk x = true ↔ ((0 ≤ x.f0 ∧ x.f0 ≤ 15) ∧ (0 ≤ x.f1 ∧ x.f1 ≤ 15) ∧ (0 ≤ x.f2 ∧ x.f2 ≤ x.f3 ∧ x.f3 ≤ 6) ∧ 0 ≤ x.f4 ∧ x.f4 ≤ x.f5 ∧ x.f5 ≤ 10000) := decide_eq_true_iff
theorem nextOk_iff (a x : S88) : nextOk a x = true ↔ ((-1 ≤ a.f0 - x.f0 ∧ a.f0 - x.f0 ≤ 1) ∧ (-1 ≤ a.f1 - x.f1 ∧ a.f1 - x.f1 ≤ 1) ∧ (a.f0 = x.f0 → a.f1 ≠ x.f1) ∧ a.f2 ≤ x.f3 ∧ x.f2 ≤ a.f3) := decide_eq_true_iff
theorem pathOk_facts {q s : Int} {l : List S88} {f b : Int} (h : pathOk q s l f b = true) : (1 ≤ q ∧ q ≤ s ∧ s ≤ 50) ∧ (1 ≤ l.length ∧ l.length ≤ 40) ∧ (0 ≤ f ∧ f ≤ b ∧ b ≤ 10000) ∧ ∀ j : Nat, j < l.length → stepOk (rd_T88 l (j : Int)) = true := by
  unfold pathOk at h
  rw [Bool.and_eq_true, Bool.and_eq_true, Bool.and_eq_true] at h
  obtain ⟨h1, h2, h3, h4⟩ := h
  refine ⟨of_decide_eq_true h1, of_decide_eq_true h2, of_decide_eq_true h3, fun j hj => ?_⟩
  have := (allN_iff _ _).1 h4 j (by omega) (by omega)
  unfold placeOk at this
  rw [Bool.and_eq_true] at this
  exact this.1
/-- The window of the i-th tick of a flight: that of step i, or of the path. -/
def loAt (l : List S88) (f : Int) (i : Int) : Int := if i < (l.length : Int) then (rd_T88 l i).f4 else f
def hiAt (l : List S88) (b : Int) (i : Int) : Int := if i < (l.length : Int) then (rd_T88 l i).f5 else b
theorem loAt_range {q s : Int} {l : List S88} {f b : Int} (h : pathOk q s l f b = true) (i : Nat) : 0 ≤ loAt l f i ∧ loAt l f i ≤ hiAt l b i ∧ hiAt l b i ≤ 10000 := by
  obtain ⟨_, _, h3, h4⟩ := pathOk_facts h
  unfold loAt hiAt
  by_cases hi : (i : Int) < (l.length : Int)
  · rw [if_pos hi, if_pos hi]
    have := (stepOk_iff _).1 (h4 i (by omega))
    omega
  · rw [if_neg hi, if_neg hi]
    omega
theorem spec_in (a b c : Int) : spec_l21In.f a b c = some (decide (b ≤ a ∧ a ≤ c)) := by
  unfold spec_l21In.f
  by_cases h : a ≥ b <;> simp [h]
theorem spec_kind (q s : Int) : spec_FlyKindOk.f q s = some (kindOk q s) := by
  unfold spec_FlyKindOk.f kindOk
  rw [spec_in]
  simp only [Option.bind_some]
  by_cases h1 : 1 ≤ q <;> by_cases h2 : q ≤ s <;> simp [h1, h2]
theorem spec_step (x : S88) : spec_l22StepOk.f x.f0 x.f1 x.f2 x.f3 x.f4 x.f5 x.f6 = some (stepOk x) := by
  unfold spec_l22StepOk.f stepOk
  simp only [spec_in, Option.bind_some, decide_eq_true_eq]
  by_cases h0 : 0 ≤ x.f0 ∧ x.f0 ≤ 15
  · rw [if_pos h0]
    by_cases h1 : 0 ≤ x.f1 ∧ x.f1 ≤ 15
    · rw [if_pos h1]
      by_cases h2 : 0 ≤ x.f2 ∧ x.f2 ≤ x.f3
      · rw [if_pos h2]
        by_cases h3 : x.f3 ≤ 6
        · rw [if_pos h3]
          by_cases h4 : 0 ≤ x.f4 ∧ x.f4 ≤ x.f5
          · rw [if_pos h4]
            congr 1
            apply decide_eq_decide.2
            omega
          · rw [if_neg h4]
            congr 1
            symm
            apply decide_eq_false
            omega
        · rw [if_neg h3]
          congr 1
          symm
          apply decide_eq_false
          omega
      · rw [if_neg h2]
        congr 1
        symm
        apply decide_eq_false
        omega
    · rw [if_neg h1]
      congr 1
      symm
      apply decide_eq_false
      omega
  · rw [if_neg h0]
    congr 1
    symm
    apply decide_eq_false
    omega
theorem spec_next (a x : S88) (ha : stepOk a = true) (hx : stepOk x = true) : spec_l22Next.f a.f0 a.f1 a.f2 a.f3 a.f4 a.f5 a.f6 x.f0 x.f1 x.f2 x.f3 x.f4 x.f5 x.f6 = some (nextOk a x) := by
  have ha := (stepOk_iff a).1 ha
  have hx := (stepOk_iff x).1 hx
  unfold spec_l22Next.f nextOk
  rw [w64 (show -9223372036854775808 ≤ a.f0 - x.f0 by omega) (by omega), w64 (show -9223372036854775808 ≤ a.f1 - x.f1 by omega) (by omega)]
  simp only [spec_in, Option.bind_some, decide_eq_true_eq]
  repeat' split
  all_goals first | (congr 1; apply decide_eq_decide.2; omega) | (congr 1; symm; apply decide_eq_false; omega)
def specPlace (l : List S88) (j : Nat) : Bool := stepOk (rd_T88 l (j : Int)) && (decide (j = 0) || decide (spec_l22Next.f (rd_T88 l ((j : Int) - 1)).f0 (rd_T88 l ((j : Int) - 1)).f1 (rd_T88 l ((j : Int) - 1)).f2 (rd_T88 l ((j : Int) - 1)).f3 (rd_T88 l ((j : Int) - 1)).f4 (rd_T88 l ((j : Int) - 1)).f5 (rd_T88 l ((j : Int) - 1)).f6 (rd_T88 l (j : Int)).f0 (rd_T88 l (j : Int)).f1 (rd_T88 l (j : Int)).f2 (rd_T88 l (j : Int)).f3 (rd_T88 l (j : Int)).f4 (rd_T88 l (j : Int)).f5 (rd_T88 l (j : Int)).f6 = some true))
theorem next_some (a0 a1 a2 a3 a4 a5 : Int) (a6 : Bool) (x0 x1 x2 x3 x4 x5 : Int) (x6 : Bool) : ∃ t, spec_l22Next.f a0 a1 a2 a3 a4 a5 a6 x0 x1 x2 x3 x4 x5 x6 = some t := by
  unfold spec_l22Next.f
  simp only [spec_in, Option.bind_some]
  repeat' split
  all_goals exact ⟨_, rfl⟩
theorem spec_places (l : List S88) : allN (specPlace l) l.length 0 = allN (placeOk l) l.length 0 := by
  refine allN_hist _ _ (fun j _ _ hh => ?_)
  unfold specPlace placeOk
  by_cases hs : stepOk (rd_T88 l (j : Int)) = true
  · rw [hs]
    by_cases h0 : j = 0
    · simp [h0]
    · have hp := hh (j - 1) (by omega) (by omega)
      unfold specPlace at hp
      rw [Bool.and_eq_true] at hp
      have hp := hp.1
      rw [show (((j - 1 : Nat) : Int)) = (j : Int) - 1 by omega] at hp
      rw [spec_next _ _ hp hs]
      simp
  · rw [Bool.eq_false_iff.2 hs]
    simp
theorem spec_pathOk (q s : Int) (l : List S88) (f b : Int) : Ev (fun k => spec_FlyPathOk.f k q s l f b) (pathOk q s l f b) := by
  unfold spec_FlyPathOk.f pathOk
  have bad : Ev (fun k => spec_FlyPathOk.j0 k true q s l f b) false := Ev.step (fun k => (by simp only [spec_FlyPathOk.j0]; exact if_pos trivial)) (Ev.val _)
  simp only [spec_kind, spec_in, Option.bind_some]
  by_cases h1 : kindOk q s = true
  · rw [h1]
    refine Ev.ite_pos rfl ?_
    by_cases h2 : 1 ≤ l.length ∧ l.length ≤ 40
    · rw [decide_eq_true h2]
      refine Ev.ite_pos (by rw [decide_eq_true_eq]; omega) ?_
      by_cases h3 : 0 ≤ f ∧ f ≤ b
      · refine Ev.ite_pos (by rw [decide_eq_true_eq]; exact h3) ?_
        refine Ev.succ ?_
        simp only [spec_FlyPathOk.j0]
        by_cases h4 : b > 10000
        · refine Ev.ite_pos (decide_eq_true h4) (Ev.cast (Ev.val _) ?_)
          have : winOk f b = false := decide_eq_false (by omega)
          rw [this]; rfl
        · refine Ev.ite_neg (by simpa using h4) ?_
          have : winOk f b = true := decide_eq_true (by omega)
          rw [this, ← spec_places]
          have key := find_loop (F := fun k i => spec_FlyPathOk.l0 k i q s l f b) l.length (fun j => !specPlace l j) (fun _ => false) true ?_ ?_ ?_ l.length 0 (by omega)
          · exact key
          · intro i hi hp
            refine Ev.step (fun k => ?_) (Ev.val _)
            simp only [spec_FlyPathOk.l0, if_pos (show (i : Int) < (l.length : Int) by omega), if_pos (show (0 : Int) ≤ i by omega), spec_step, Option.bind_some]
            unfold specPlace at hp
            by_cases hs : stepOk (rd_T88 l (i : Int)) = true
            · rw [hs] at hp ⊢
              rw [if_pos rfl]
              by_cases hi0 : i = 0
              · simp [hi0] at hp
              · rw [if_pos (show (i : Int) > 0 by omega), w64 (show -9223372036854775808 ≤ (i : Int) - 1 by omega) (by omega), if_pos (by omega), if_pos (by omega)]
                obtain ⟨t, ht⟩ := next_some (rd_T88 l ((i : Int) - 1)).f0 (rd_T88 l ((i : Int) - 1)).f1 (rd_T88 l ((i : Int) - 1)).f2 (rd_T88 l ((i : Int) - 1)).f3 (rd_T88 l ((i : Int) - 1)).f4 (rd_T88 l ((i : Int) - 1)).f5 (rd_T88 l ((i : Int) - 1)).f6 (rd_T88 l (i : Int)).f0 (rd_T88 l (i : Int)).f1 (rd_T88 l (i : Int)).f2 (rd_T88 l (i : Int)).f3 (rd_T88 l (i : Int)).f4 (rd_T88 l (i : Int)).f5 (rd_T88 l (i : Int)).f6
                rw [ht] at hp ⊢
                simp only [Option.bind_some]
                have : t = false := by simpa [hi0] using hp
                rw [this]
                rfl
            · rw [if_neg hs]
          · intro i hi hp r' hr
            refine Ev.step (fun k => ?_) hr
            simp only [spec_FlyPathOk.l0, if_pos (show (i : Int) < (l.length : Int) by omega), if_pos (show (0 : Int) ≤ i by omega), spec_step, Option.bind_some]
            unfold specPlace at hp
            by_cases hs : stepOk (rd_T88 l (i : Int)) = true
            · rw [hs] at hp ⊢
              rw [if_pos rfl]
              by_cases hi0 : i = 0
              · rw [if_neg (by omega), w64 (by omega) (by omega)]
              · rw [if_pos (show (i : Int) > 0 by omega), w64 (show -9223372036854775808 ≤ (i : Int) - 1 by omega) (by omega), if_pos (by omega), if_pos (by omega)]
                obtain ⟨t, ht⟩ := next_some (rd_T88 l ((i : Int) - 1)).f0 (rd_T88 l ((i : Int) - 1)).f1 (rd_T88 l ((i : Int) - 1)).f2 (rd_T88 l ((i : Int) - 1)).f3 (rd_T88 l ((i : Int) - 1)).f4 (rd_T88 l ((i : Int) - 1)).f5 (rd_T88 l ((i : Int) - 1)).f6 (rd_T88 l (i : Int)).f0 (rd_T88 l (i : Int)).f1 (rd_T88 l (i : Int)).f2 (rd_T88 l (i : Int)).f3 (rd_T88 l (i : Int)).f4 (rd_T88 l (i : Int)).f5 (rd_T88 l (i : Int)).f6
                rw [ht] at hp ⊢
                simp only [Option.bind_some]
                have : t = true := by simpa [hi0] using hp
                rw [this, if_pos rfl, w64 (by omega) (by omega)]
            · simp [hs] at hp
          · refine Ev.step (fun k => ?_) (Ev.val _)
            simp only [spec_FlyPathOk.l0]
            rw [if_neg (by omega)]
      · refine Ev.ite_neg (by rw [decide_eq_true_eq]; exact h3) (Ev.cast bad ?_)
        have : winOk f b = false := decide_eq_false (by omega)
        rw [this]; rfl
    · rw [decide_eq_false h2]
      exact Ev.ite_neg (by rw [decide_eq_true_eq]; omega) bad
  · rw [Bool.eq_false_iff.2 h1]
    exact Ev.ite_neg (by decide) bad
theorem impl_in (a b c : Int) : impl_within.f a b c = some (decide (b ≤ a ∧ a ≤ c)) := by
  unfold impl_within.f
  by_cases h : a ≥ b <;> simp [h]
theorem impl_kind (q s : Int) : impl_FlyKindOk.f q s = some (kindOk q s) := by
  unfold impl_FlyKindOk.f kindOk
  by_cases h1 : 1 ≤ q <;> by_cases h2 : q ≤ s <;> simp [h1, h2]
theorem impl_win (f b : Int) : impl_window.f f b = some (winOk f b) := by
  unfold impl_window.f winOk
  by_cases h1 : 0 ≤ f <;> by_cases h2 : f ≤ b <;> simp [h1, h2]
def distW (a b : Int) : Int := if a > b then wrap64 (a - b) else wrap64 (b - a)
theorem impl_distW (a b : Int) : impl_dist.f a b = some (distW a b) := by
  unfold impl_dist.f distW
  split <;> rfl
def nextW (a x : S88) : Bool := decide ((a.f0 = x.f0 → a.f1 ≠ x.f1) ∧ distW a.f0 x.f0 ≤ 1 ∧ distW a.f1 x.f1 ≤ 1 ∧ a.f2 ≤ x.f3 ∧ x.f2 ≤ a.f3)
theorem nextW_eq (a x : S88) (ha : stepOk a = true) (hx : stepOk x = true) : nextW a x = nextOk a x := by
  have ha := (stepOk_iff a).1 ha
  have hx := (stepOk_iff x).1 hx
  unfold nextW nextOk
  have d : ∀ p r : Int, 0 ≤ p → p ≤ 15 → 0 ≤ r → r ≤ 15 → (distW p r ≤ 1 ↔ -1 ≤ p - r ∧ p - r ≤ 1) := by
    intro p r _ _ _ _
    unfold distW
    by_cases h : p > r
    · rw [if_pos h, w64 (by omega) (by omega)]; omega
    · rw [if_neg h, w64 (by omega) (by omega)]; omega
  have d0 := d a.f0 x.f0 (by omega) (by omega) (by omega) (by omega)
  have d1 := d a.f1 x.f1 (by omega) (by omega) (by omega) (by omega)
  apply decide_eq_decide.2
  rw [d0, d1]
  omega
def implPlace (l : List S88) (j : Nat) : Bool := stepOk (rd_T88 l (j : Int)) && (decide (j = 0) || nextW (rd_T88 l ((j : Int) - 1)) (rd_T88 l (j : Int)))
theorem impl_places (l : List S88) : allN (implPlace l) l.length 0 = allN (placeOk l) l.length 0 := by
  refine allN_hist _ _ (fun j _ _ hh => ?_)
  unfold implPlace placeOk
  by_cases hs : stepOk (rd_T88 l (j : Int)) = true
  · rw [hs]
    by_cases h0 : j = 0
    · simp [h0]
    · have hp := hh (j - 1) (by omega) (by omega)
      unfold implPlace at hp
      rw [Bool.and_eq_true] at hp
      have hp := hp.1
      rw [show (((j - 1 : Nat) : Int)) = (j : Int) - 1 by omega] at hp
      rw [nextW_eq _ _ hp hs]
  · rw [Bool.eq_false_iff.2 hs]
    simp
theorem impl_round (q s : Int) (l : List S88) (f b : Int) (i : Nat) (hi : i < l.length) (k : Nat) : impl_FlyPathOk.l0 (k + 1) l (l.length : Int) i q s l f b =
    impl_FlyPathOk.j2 k i l (l.length : Int) i (!stepOk (rd_T88 l (i : Int))) q s l f b (rd_T88 l (i : Int)).f0 (rd_T88 l (i : Int)).f1 (rd_T88 l (i : Int)).f2 (rd_T88 l (i : Int)).f3 (rd_T88 l (i : Int)).f4 (rd_T88 l (i : Int)).f5 (rd_T88 l (i : Int)).f6 := by
  simp only [impl_FlyPathOk.l0, if_pos (show (i : Int) < (l.length : Int) by omega), if_pos (show (0 : Int) ≤ i by omega), impl_in, impl_win, Option.bind_some, decide_eq_true_eq]
  generalize rd_T88 l (i : Int) = x
  have e : ∀ c : Bool, c = stepOk x → ∀ {α : Type} (g : Bool → α), g (!c) = g (!stepOk x) := fun c h α g => by rw [h]
  by_cases h0 : 0 ≤ x.f0 ∧ x.f0 ≤ 15
  · rw [if_pos h0]
    by_cases h1 : 0 ≤ x.f1 ∧ x.f1 ≤ 15
    · rw [if_pos h1]
      by_cases h2 : 0 ≤ x.f2
      · rw [if_pos h2]
        by_cases h3 : x.f2 ≤ x.f3
        · rw [if_pos h3]
          by_cases h4 : x.f3 ≤ 6
          · rw [if_pos h4]
            have : winOk x.f4 x.f5 = stepOk x := by
              unfold winOk stepOk
              apply decide_eq_decide.2
              omega
            rw [this]
          · rw [if_neg h4, show stepOk x = false from decide_eq_false (by omega)]; rfl
        · rw [if_neg h3, show stepOk x = false from decide_eq_false (by omega)]; rfl
      · rw [if_neg h2, show stepOk x = false from decide_eq_false (by omega)]; rfl
    · rw [if_neg h1, show stepOk x = false from decide_eq_false (by omega)]; rfl
  · rw [if_neg h0, show stepOk x = false from decide_eq_false (by omega)]; rfl
theorem impl_second (q s : Int) (l : List S88) (f b : Int) (i : Nat) (hi : i < l.length) (h0 : i ≠ 0) (x : S88) (k : Nat) (hl : l.length ≤ 40) : impl_FlyPathOk.j2 (k + 1) i l (l.length : Int) i false q s l f b x.f0 x.f1 x.f2 x.f3 x.f4 x.f5 x.f6 =
    if nextW (rd_T88 l ((i : Int) - 1)) x = true then impl_FlyPathOk.l0 k l (l.length : Int) ((i : Int) + 1) q s l f b else some false := by
  simp only [impl_FlyPathOk.j2, impl_distW, Option.bind_some]
  rw [if_neg (show ¬ (false = true) by decide), if_neg (show ¬ (i : Int) = 0 by omega), w64 (show -9223372036854775808 ≤ (i : Int) - 1 by omega) (by omega), if_pos (by omega), if_pos (by omega), w64 (show -9223372036854775808 ≤ (i : Int) + 1 by omega) (by omega)]
  generalize rd_T88 l ((i : Int) - 1) = a
  generalize impl_FlyPathOk.l0 k l (l.length : Int) ((i : Int) + 1) q s l f b = r
  unfold nextW
  simp only [decide_eq_true_eq]
  by_cases c0 : a.f0 = x.f0
  · rw [if_pos c0]
    by_cases c1 : a.f1 = x.f1
    · rw [if_pos c1, if_neg (fun h => h.1 c0 c1)]
    · rw [if_neg c1]
      repeat' split
      all_goals first | rfl | (exfalso; omega)
  · rw [if_neg c0]
    repeat' split
    all_goals first | rfl | (exfalso; omega)
theorem impl_pathOk (q s : Int) (l : List S88) (f b : Int) : Ev (fun k => impl_FlyPathOk.f k q s l f b) (pathOk q s l f b) := by
  unfold impl_FlyPathOk.f pathOk
  have bad : Ev (fun k => impl_FlyPathOk.j0 k true q s l f b) false := Ev.step (fun k => (by simp only [impl_FlyPathOk.j0]; exact if_pos trivial)) (Ev.val _)
  simp only [impl_kind, impl_in, impl_win, Option.bind_some]
  by_cases h1 : kindOk q s = true
  · rw [h1]
    refine Ev.ite_pos rfl ?_
    by_cases h2 : 1 ≤ l.length ∧ l.length ≤ 40
    · rw [decide_eq_true h2]
      refine Ev.ite_pos (by rw [decide_eq_true_eq]; omega) ?_
      refine Ev.succ ?_
      simp only [impl_FlyPathOk.j0]
      by_cases h3 : winOk f b = true
      · rw [h3, ← impl_places]
        refine Ev.ite_neg (by decide) ?_
        have key := find_loop (F := fun k i => impl_FlyPathOk.l0 k l (l.length : Int) i q s l f b) l.length (fun j => !implPlace l j) (fun _ => false) true ?_ ?_ ?_ l.length 0 (by omega)
        · exact key
        · intro i hi hp
          refine Ev.step (impl_round q s l f b i hi) ?_
          unfold implPlace at hp
          refine Ev.succ ?_
          by_cases hs : stepOk (rd_T88 l (i : Int)) = true
          · rw [hs] at hp ⊢
            by_cases hi0 : i = 0
            · simp [hi0] at hp
            · refine Ev.congr (fun k => impl_second q s l f b i hi hi0 _ k h2.2) ?_
              refine Ev.ite_neg ?_ (Ev.val _)
              simpa [hi0] using hp
          · rw [Bool.eq_false_iff.2 hs]
            simp only [impl_FlyPathOk.j2]
            exact Ev.ite_pos rfl (Ev.val _)
        · intro i hi hp r' hr
          refine Ev.step (impl_round q s l f b i hi) ?_
          unfold implPlace at hp
          refine Ev.succ ?_
          by_cases hs : stepOk (rd_T88 l (i : Int)) = true
          · rw [hs] at hp ⊢
            by_cases hi0 : i = 0
            · subst hi0
              simp only [impl_FlyPathOk.j2]
              refine Ev.ite_neg (by decide) (Ev.ite_pos rfl ?_)
              rw [w64 (by omega) (by omega)]
              exact hr
            · refine Ev.congr (fun k => impl_second q s l f b i hi hi0 _ k h2.2) ?_
              refine Ev.ite_pos ?_ hr
              simpa [hi0] using hp
          · simp [hs] at hp
        · refine Ev.step (fun k => ?_) (Ev.val _)
          simp only [impl_FlyPathOk.l0]
          rw [if_neg (by omega)]
      · rw [Bool.eq_false_iff.2 h3]
        exact Ev.ite_pos rfl (Ev.val _)
    · rw [decide_eq_false h2]
      exact Ev.ite_neg (by rw [decide_eq_true_eq]; omega) bad
  · rw [Bool.eq_false_iff.2 h1]
    exact Ev.ite_neg (by decide) bad
theorem spec_low (q s : Int) (l : List S88) (f b : Int) (i : Int) (h : 0 ≤ i) : spec_l23Low.f q s l f b i = some (loAt l f i) := by
  unfold spec_l23Low.f loAt
  by_cases hi : i < (l.length : Int)
  · rw [if_pos hi, if_pos h, if_pos hi]
  · rw [if_neg hi, if_neg hi]
theorem spec_high (q s : Int) (l : List S88) (f b : Int) (i : Int) (h : 0 ≤ i) : spec_l23High.f q s l f b i = some (hiAt l b i) := by
  unfold spec_l23High.f hiAt
  by_cases hi : i < (l.length : Int)
  · rw [if_pos hi, if_pos h, if_pos hi]
  · rw [if_neg hi, if_neg hi]
def mostAt (s : Int) (l : List S88) (i : Int) : Int := if (rd_T88 l i).f6 = true then 10000 else s
theorem spec_most (q s : Int) (l : List S88) (f b : Int) (i : Int) (h : 0 ≤ i) (hi : i < (l.length : Int)) : spec_l23Most.f q s l f b i = some (mostAt s l i) := by
  unfold spec_l23Most.f mostAt
  rw [if_pos h, if_pos hi]
  split <;> rfl
theorem impl_bound (q s : Int) (l : List S88) (f b : Int) (i : Int) (h : 0 ≤ i) (hi : i ≤ (l.length : Int)) : impl_FlyPath_bound.f q s l f b i = some (loAt l f i, hiAt l b i) := by
  unfold impl_FlyPath_bound.f loAt hiAt
  by_cases e : i = (l.length : Int)
  · rw [if_pos e, if_neg (by omega), if_neg (by omega)]
  · rw [if_neg e, if_pos h, if_pos (by omega), if_pos (by omega), if_pos (by omega)]
/-! #### spans: forward, then back -/
section
variable (w : Int → Int) (A B : Nat → Int) (q s : Int) (h : Nat → Bool) (n : Nat)
def fwdL : Nat → Int
  | 0 => A 0
  | k + 1 => max (A (k + 1)) (w (fwdL k + q))
def fwdH : Nat → Int
  | 0 => B 0
  | k + 1 => if h k = true then B (k + 1) else min (B (k + 1)) (w (fwdH k + s))
/-- d places ahead of the last one. -/
def bwdL : Nat → Int
  | 0 => fwdL w A q n
  | d + 1 => if h (n - (d + 1)) = true then fwdL w A q (n - (d + 1)) else max (fwdL w A q (n - (d + 1))) (w (bwdL d - s))
def bwdH : Nat → Int
  | 0 => fwdH w B s h n
  | d + 1 => min (fwdH w B s h (n - (d + 1))) (w (bwdH d - q))
def spanL (k : Nat) : Int := bwdL w A q s h n (n - k)
def spanH (k : Nat) : Int := bwdH w B q s h n (n - k)
theorem spanL_last : spanL w A q s h n n = fwdL w A q n := by unfold spanL; rw [Nat.sub_self]; rfl
theorem spanH_last : spanH w B q s h n n = fwdH w B s h n := by unfold spanH; rw [Nat.sub_self]; rfl
theorem spanL_step (k : Nat) (hk : k < n) : spanL w A q s h n k = if h k = true then fwdL w A q k else max (fwdL w A q k) (w (spanL w A q s h n (k + 1) - s)) := by
  unfold spanL
  obtain ⟨d, hd⟩ : ∃ d, n - (k + 1) = d := ⟨_, rfl⟩
  rw [hd, show n - k = d + 1 by omega]
  simp only [bwdL]
  rw [show n - (d + 1) = k by omega]
theorem spanH_step (k : Nat) (hk : k < n) : spanH w B q s h n k = min (fwdH w B s h k) (w (spanH w B q s h n (k + 1) - q)) := by
  unfold spanH
  obtain ⟨d, hd⟩ : ∃ d, n - (k + 1) = d := ⟨_, rfl⟩
  rw [hd, show n - k = d + 1 by omega]
  simp only [bwdH]
  rw [show n - (d + 1) = k by omega]
theorem fwdL_ge (k : Nat) : A k ≤ fwdL w A q k := by
  cases k with
  | zero => exact Int.le_refl _
  | succ k => simp only [fwdL]; omega
theorem fwdH_le (k : Nat) : fwdH w B s h k ≤ B k := by
  cases k with
  | zero => exact Int.le_refl _
  | succ k =>
    simp only [fwdH]
    split <;> omega
theorem spanL_ge (k : Nat) (hk : k ≤ n) : fwdL w A q k ≤ spanL w A q s h n k := by
  rcases Nat.lt_or_ge k n with hlt | hge
  · rw [spanL_step w A q s h n k hlt]
    split <;> omega
  · rw [show k = n by omega, spanL_last]
    exact Int.le_refl _
theorem spanH_le (k : Nat) (hk : k ≤ n) : spanH w B q s h n k ≤ fwdH w B s h k := by
  rcases Nat.lt_or_ge k n with hlt | hge
  · rw [spanH_step w B q s h n k hlt]
    omega
  · rw [show k = n by omega, spanH_last]
    exact Int.le_refl _
end
abbrev idw (x : Int) : Int := x
/-- A row told place by place. -/
def tab {α : Type} (n : Nat) (g : Nat → α) : List α := (List.range n).map g
theorem tab_length {α : Type} (n : Nat) (g : Nat → α) : (tab n g).length = n := by simp [tab]
theorem tab_get {α : Type} (n : Nat) (g : Nat → α) (i : Nat) (hi : i < n) : (tab n g)[i]? = some (g i) := by simp [tab, hi]
theorem tab_rd (n : Nat) (g : Nat → S46) (i : Nat) (hi : i < n) : rd_T46 (tab n g) (i : Int) = g i := by
  show (tab n g).getD ((i : Int)).toNat _ = g i
  rw [Int.toNat_natCast, List.getD_eq_getElem?_getD, tab_get n g i hi]; rfl
theorem tab_congr {α : Type} (n : Nat) (g g' : Nat → α) (hg : ∀ j, j < n → g j = g' j) : tab n g = tab n g' := by
  apply List.ext_getElem?
  intro j
  rcases Nat.lt_or_ge j n with hj | hj
  · rw [tab_get n g j hj, tab_get n g' j hj, hg j hj]
  · rw [List.getElem?_eq_none (by rw [tab_length]; omega), List.getElem?_eq_none (by rw [tab_length]; omega)]
theorem tab_set {α : Type} (n : Nat) (g : Nat → α) (i : Nat) (v : α) (hi : i < n) : (tab n g).set i v = tab n (fun j => if j = i then v else g j) := by
  apply List.ext_getElem?
  intro j
  rcases Nat.lt_or_ge j n with hj | hj
  · rw [tab_get n _ j hj]
    by_cases e : j = i
    · subst e
      rw [List.getElem?_set_self (by rw [tab_length]; omega), if_pos rfl]
    · rw [List.getElem?_set_ne (Ne.symm e), tab_get n g j hj, if_neg e]
  · rw [List.getElem?_eq_none (by rw [List.length_set, tab_length]; omega), List.getElem?_eq_none (by rw [tab_length]; omega)]
theorem tab_snoc {α : Type} (n : Nat) (g : Nat → α) : tab n g ++ [g n] = tab (n + 1) g := by simp [tab, List.range_succ]
def spansOk (w : Int → Int) (A B : Nat → Int) (q s : Int) (h : Nat → Bool) (n : Nat) : Bool := allN (fun k => decide (spanL w A q s h n k ≤ spanH w B q s h n k)) (n + 1) 0
def spansR (w : Int → Int) (A B : Nat → Int) (q s : Int) (h : Nat → Bool) (n : Nat) : List S46 × Bool :=
  if spansOk w A B q s h n = true then (tab (n + 1) (fun k => (⟨spanL w A q s h n k, spanH w B q s h n k⟩ : S46)), true) else ([], false)
theorem spansOk_iff (w : Int → Int) (A B : Nat → Int) (q s : Int) (h : Nat → Bool) (n : Nat) : spansOk w A B q s h n = true ↔ ∀ k, k ≤ n → spanL w A q s h n k ≤ spanH w B q s h n k := by
  unfold spansOk
  rw [allN_iff]
  exact ⟨fun hh k hk => of_decide_eq_true (hh k (by omega) (by omega)), fun hh k _ hk => decide_eq_true (hh k (by omega))⟩
/-- Windows of which none is empty, within the ticks: nothing wraps. -/
theorem spans_wrap (A B : Nat → Int) (q s : Int) (h : Nat → Bool) (n : Nat) (hn : n ≤ 40) (hq : 1 ≤ q ∧ q ≤ s ∧ s ≤ 50) (hw : ∀ k, k ≤ n → 0 ≤ A k ∧ A k ≤ B k ∧ B k ≤ 10000) :
    ∀ k, k ≤ n → spanL wrap64 A q s h n k = spanL idw A q s h n k ∧ spanH wrap64 B q s h n k = spanH idw B q s h n k := by
  have fL : ∀ k, k ≤ n → fwdL wrap64 A q k = fwdL idw A q k ∧ 0 ≤ fwdL idw A q k ∧ fwdL idw A q k ≤ 10000 + 50 * (k : Int) := by
    intro k
    induction k with
    | zero => intro hk; have := hw 0 hk; simp only [fwdL]; exact ⟨by trivial, by omega, by omega⟩
    | succ k ih =>
      intro hk
      obtain ⟨h1, h2, h3⟩ := ih (by omega)
      have := hw (k + 1) hk
      simp only [fwdL, h1, idw]
      rw [w64 (by omega) (by omega)]
      exact ⟨rfl, by omega, by omega⟩
  have fH : ∀ k, k ≤ n → fwdH wrap64 B s h k = fwdH idw B s h k ∧ 0 ≤ fwdH idw B s h k ∧ fwdH idw B s h k ≤ 10000 := by
    intro k
    induction k with
    | zero => intro hk; have := hw 0 hk; simp only [fwdH]; exact ⟨by trivial, by omega, by omega⟩
    | succ k ih =>
      intro hk
      obtain ⟨h1, h2, h3⟩ := ih (by omega)
      have := hw (k + 1) hk
      simp only [fwdH, h1, idw]
      rw [w64 (by omega) (by omega)]
      exact ⟨rfl, by split <;> omega, by split <;> omega⟩
  have bL : ∀ d, d ≤ n → bwdL wrap64 A q s h n d = bwdL idw A q s h n d ∧ 0 ≤ bwdL idw A q s h n d ∧ bwdL idw A q s h n d ≤ 12000 := by
    intro d
    induction d with
    | zero => intro hd; have := fL n (Nat.le_refl _); simp only [bwdL]; exact ⟨this.1, this.2.1, by omega⟩
    | succ d ih =>
      intro hd
      obtain ⟨h1, h2, h3⟩ := ih (by omega)
      have := fL (n - (d + 1)) (by omega)
      simp only [bwdL, h1, this.1, idw]
      rw [w64 (by omega) (by omega)]
      exact ⟨rfl, by split <;> omega, by split <;> omega⟩
  have bH : ∀ d, d ≤ n → bwdH wrap64 B q s h n d = bwdH idw B q s h n d ∧ -50 * (d : Int) ≤ bwdH idw B q s h n d ∧ bwdH idw B q s h n d ≤ 10000 := by
    intro d
    induction d with
    | zero => intro hd; have := fH n (Nat.le_refl _); simp only [bwdH]; exact ⟨this.1, by omega, by omega⟩
    | succ d ih =>
      intro hd
      obtain ⟨h1, h2, h3⟩ := ih (by omega)
      have := fH (n - (d + 1)) (by omega)
      simp only [bwdH, h1, this.1, idw]
      rw [w64 (by omega) (by omega)]
      exact ⟨rfl, by omega, by omega⟩
  exact fun k hk => ⟨(bL (n - k) (by omega)).1, (bH (n - k) (by omega)).1⟩
theorem spansR_wrap (A B : Nat → Int) (q s : Int) (h : Nat → Bool) (n : Nat) (hn : n ≤ 40) (hq : 1 ≤ q ∧ q ≤ s ∧ s ≤ 50) (hA : ∀ k, k ≤ n → 0 ≤ A k) (hB : ∀ k, k ≤ n → B k ≤ 10000) : spansR wrap64 A B q s h n = spansR idw A B q s h n := by
  by_cases hbad : ∃ k, k ≤ n ∧ B k < A k
  · obtain ⟨k, hk, hlt⟩ := hbad
    have no : ∀ w : Int → Int, spansOk w A B q s h n = false := by
      intro w
      refine Bool.eq_false_iff.2 (fun hok => ?_)
      have := (spansOk_iff w A B q s h n).1 hok k hk
      have h1 := fwdL_ge w A q k
      have h2 := fwdH_le w B s h k
      have h3 := spanL_ge w A q s h n k hk
      have h4 := spanH_le w B q s h n k hk
      omega
    unfold spansR
    rw [no wrap64, no idw]
    simp only [Bool.false_eq_true, if_false]
  · have hw : ∀ k, k ≤ n → 0 ≤ A k ∧ A k ≤ B k ∧ B k ≤ 10000 := fun k hk => ⟨hA k hk, Int.not_lt.1 (fun hlt => hbad ⟨k, hk, hlt⟩), hB k hk⟩
    have e := spans_wrap A B q s h n hn hq hw
    have e2 : spansOk wrap64 A B q s h n = spansOk idw A B q s h n := by
      apply Bool.eq_iff_iff.2
      rw [spansOk_iff, spansOk_iff]
      exact ⟨fun hh k hk => by rw [← (e k hk).1, ← (e k hk).2]; exact hh k hk, fun hh k hk => by rw [(e k hk).1, (e k hk).2]; exact hh k hk⟩
    unfold spansR
    rw [e2, tab_congr (n + 1) _ (fun k => (⟨spanL idw A q s h n k, spanH idw B q s h n k⟩ : S46)) (fun j hj => by rw [(e j (by omega)).1, (e j (by omega)).2])]
def holdAt (l : List S88) (k : Nat) : Bool := (rd_T88 l (k : Int)).f6
theorem spec_max (a b : Int) : spec_l21Max.f a b = some (max a b) := by
  unfold spec_l21Max.f
  by_cases h : a > b
  · rw [if_pos h]; congr 1; omega
  · rw [if_neg h]; congr 1; omega
theorem spec_min (a b : Int) : spec_l21Min.f a b = some (min a b) := by
  unfold spec_l21Min.f
  by_cases h : a < b
  · rw [if_pos h]; congr 1; omega
  · rw [if_neg h]; congr 1; omega
theorem spec_spans (q s : Int) (l : List S88) (f b : Int) (hq : 1 ≤ q ∧ q ≤ s ∧ s ≤ 50) (hn : l.length ≤ 40)
    (hA : ∀ k : Nat, k ≤ l.length → 0 ≤ loAt l f k ∧ loAt l f k ≤ 9223372036854775807) (hB : ∀ k : Nat, k ≤ l.length → -9223372036854775808 ≤ hiAt l b k ∧ hiAt l b k ≤ 10000) :
    Ev (fun k => spec_l24Spans.f k q s l f b) (spansR idw (fun k => loAt l f k) (fun k => hiAt l b k) q s (holdAt l) l.length) := by
  -- the second loop, from i on downwards
  obtain ⟨n, hnl⟩ : ∃ n, n = l.length := ⟨_, rfl⟩
  rw [← hnl] at hn hA hB ⊢
  obtain ⟨A, hAd⟩ : ∃ A : Nat → Int, A = fun k : Nat => loAt l f (k : Int) := ⟨_, rfl⟩
  obtain ⟨B, hBd⟩ : ∃ B : Nat → Int, B = fun k : Nat => hiAt l b (k : Int) := ⟨_, rfl⟩
  have hA' : ∀ k, k ≤ n → 0 ≤ A k ∧ A k ≤ 9223372036854775807 := fun k hk => by rw [hAd]; exact hA k hk
  have hB' : ∀ k, k ≤ n → -9223372036854775808 ≤ B k ∧ B k ≤ 10000 := fun k hk => by rw [hBd]; exact hB k hk
  have hlo : ∀ i : Nat, spec_l23Low.f q s l f b (i : Int) = some (A i) := fun i => by rw [hAd]; exact spec_low q s l f b i (by omega)
  have hhi : ∀ i : Nat, spec_l23High.f q s l f b (i : Int) = some (B i) := fun i => by rw [hBd]; exact spec_high q s l f b i (by omega)
  rw [show (fun k : Nat => loAt l f (k : Int)) = A from hAd.symm, show (fun k : Nat => hiAt l b (k : Int)) = B from hBd.symm]
  have most : ∀ i : Nat, i < n → spec_l23Most.f q s l f b (i : Int) = some (if holdAt l i = true then 10000 else s) := fun i hi => by rw [spec_most q s l f b i (by omega) (by omega)]; rfl
  clear hA hB hAd hBd
  obtain ⟨h, hh⟩ : ∃ h, h = holdAt l := ⟨_, rfl⟩
  rw [← hh] at most ⊢
  have fail : ∀ k, k ≤ n → spanH idw B q s h n k < spanL idw A q s h n k → spansR idw A B q s h n = ([], false) := by
    intro k hk hlt
    unfold spansR
    rw [if_neg (fun hok => by have := (spansOk_iff idw A B q s h n).1 hok k hk; omega)]
  -- back
  have back : (∀ k, k ≤ n → fwdL idw A q k ≤ fwdH idw B s h k) → ∀ i, i ≤ n → (∀ k, i ≤ k → k ≤ n → spanL idw A q s h n k ≤ spanH idw B q s h n k) →
      Ev (fun k => spec_l24Spans.l1 k (tab (n + 1) (fun j => if i ≤ j then (⟨spanL idw A q s h n j, spanH idw B q s h n j⟩ : S46) else ⟨fwdL idw A q j, fwdH idw B s h j⟩)) ((i : Int) - 1) q s l f b) (spansR idw A B q s h n) := by
    intro hall i
    induction i with
    | zero =>
      intro hi hok
      refine Ev.step (fun k => ?_) (Ev.val _)
      simp only [spec_l24Spans.l1]
      rw [if_neg (by omega)]
      unfold spansR
      rw [if_pos ((spansOk_iff idw A B q s h n).2 (fun k hk => hok k (Nat.zero_le _) hk))]
      congr 2
    | succ i ih =>
      intro hi hok
      have r1 := hok (i + 1) (by omega) (by omega)
      have r2 := spanL_ge idw A q s h n (i + 1) (by omega)
      have r3 := spanH_le idw B q s h n (i + 1) (by omega)
      have r4 := fwdL_ge idw A q (i + 1)
      have r5 := fwdH_le idw B s h (i + 1)
      have r6 := hA' (i + 1) (by omega)
      have r7 := hB' (i + 1) (by omega)
      have r8 := fwdL_ge idw A q i
      have r9 := fwdH_le idw B s h i
      have r10 := hA' i (by omega)
      have r11 := hB' i (by omega)
      have r12 := hall i (by omega)
      have eL : max (fwdL idw A q i) (spanL idw A q s h n (i + 1) - (if h i = true then 10000 else s)) = spanL idw A q s h n i := by
        rw [spanL_step idw A q s h n i (by omega)]
        simp only [idw]
        split <;> omega
      have eH : min (fwdH idw B s h i) (spanH idw B q s h n (i + 1) - q) = spanH idw B q s h n i := by
        rw [spanH_step idw B q s h n i (by omega)]
      refine Ev.succ ?_
      simp only [spec_l24Spans.l1, show (((i + 1 : Nat) : Int)) - 1 = (i : Int) by omega]
      rw [w64 (show -9223372036854775808 ≤ (i : Int) + 1 by omega) (by omega)]
      simp only [tab_length, most i (by omega), Option.bind_some]
      rw [show ((i : Int) + 1) = (((i + 1 : Nat)) : Int) by omega]
      rw [tab_rd (n + 1) _ i (by omega), tab_rd (n + 1) _ (i + 1) (by omega), if_neg (show ¬ i + 1 ≤ i by omega), if_pos (Nat.le_refl (i + 1))]
      have b1 : -9223372036854775808 ≤ spanL idw A q s h n (i + 1) - (if h i = true then 10000 else s) := by split <;> omega
      have b2 : spanL idw A q s h n (i + 1) - (if h i = true then 10000 else s) ≤ 9223372036854775807 := by split <;> omega
      rw [w64 b1 b2, spec_max, eL]
      simp only [Option.bind_some, Int.toNat_natCast]
      rw [tab_set (n + 1) _ i _ (by omega), tab_rd (n + 1) _ i (by omega), tab_rd (n + 1) _ (i + 1) (by omega), if_pos rfl, if_neg (show ¬ i + 1 = i by omega), if_pos (Nat.le_refl (i + 1))]
      simp only [spec_min]
      rw [w64 (show -9223372036854775808 ≤ spanH idw B q s h n (i + 1) - q by omega) (by omega), eH]
      simp only [Option.bind_some]
      rw [tab_set (n + 1) _ i _ (by omega), tab_rd (n + 1) _ i (by omega), if_pos rfl]
      refine Ev.ite_pos (by omega) (Ev.ite_pos (by omega) (Ev.ite_pos (by omega) (Ev.ite_pos (by omega) (Ev.ite_pos (by omega) ?_))))
      by_cases hlt : spanL idw A q s h n i > spanH idw B q s h n i
      · refine Ev.ite_pos hlt (Ev.cast (Ev.val _) ?_)
        exact (fail i (by omega) hlt).symm
      · refine Ev.ite_neg hlt ?_
        rw [w64 (by omega) (by omega)]
        have := ih (by omega) (fun k hk hkn => by
          rcases Nat.lt_or_ge i k with h1 | h1
          · exact hok k h1 hkn
          · rw [show k = i by omega]; omega)
        rw [tab_congr (n + 1) _ (fun j => if i ≤ j then (⟨spanL idw A q s h n j, spanH idw B q s h n j⟩ : S46) else ⟨fwdL idw A q j, fwdH idw B s h j⟩) (fun j hj => by
          by_cases e : j = i
          · rw [if_pos e, if_pos (by omega), e]
          · rw [if_neg e, if_neg e]
            by_cases e2 : i + 1 ≤ j
            · rw [if_pos e2, if_pos (by omega)]
            · rw [if_neg e2, if_neg (by omega)])]
        exact this
  -- forward
  have forth : ∀ (d i : Nat), i + d = n + 1 → (∀ k, k < i → fwdL idw A q k ≤ fwdH idw B s h k) → Ev (fun k => spec_l24Spans.l0 k (tab i (fun j => (⟨fwdL idw A q j, fwdH idw B s h j⟩ : S46))) (l.length : Int) i q s l f b) (spansR idw A B q s h n) := by
    intro d
    induction d with
    | zero =>
      intro i hi hall
      refine Ev.succ ?_
      simp only [spec_l24Spans.l0]
      refine Ev.ite_neg (by omega) ?_
      by_cases hlast : spanL idw A q s h n n ≤ spanH idw B q s h n n
      · have := back (fun k hk => hall k (by omega)) n (Nat.le_refl _) (fun k h1 h2 => by rw [show k = n by omega]; exact hlast)
        rw [w64 (by omega) (by omega), ← hnl]
        rw [show i = n + 1 by omega]
        rw [tab_congr (n + 1) _ (fun j => if n ≤ j then (⟨spanL idw A q s h n j, spanH idw B q s h n j⟩ : S46) else ⟨fwdL idw A q j, fwdH idw B s h j⟩) (fun j hj => by
          by_cases e : n ≤ j
          · rw [if_pos e, show j = n by omega, spanL_last, spanH_last]
          · rw [if_neg e])]
        exact this
      · rw [spanL_last, spanH_last] at hlast
        exact absurd (hall n (by omega)) hlast
    | succ d ih =>
      intro i hi hall
      refine Ev.succ ?_
      simp only [spec_l24Spans.l0, hlo, hhi, Option.bind_some, tab_length]
      refine Ev.ite_pos (by omega) ?_
      have next : ∀ (lo hi' : Int), lo = fwdL idw A q i → hi' = fwdH idw B s h i → Ev (fun k => if lo > hi' then (some (([] : List S46), false)) else (if i < 8796093022208 then (spec_l24Spans.l0 k (tab i (fun j => (⟨fwdL idw A q j, fwdH idw B s h j⟩ : S46)) ++ [(⟨lo, hi'⟩ : S46)]) (l.length : Int) (wrap64 ((i : Int) + 1)) q s l f b) else none)) (spansR idw A B q s h n) := by
        rintro lo hi' rfl rfl
        by_cases hlt : fwdL idw A q i > fwdH idw B s h i
        · refine Ev.ite_pos hlt (Ev.cast (Ev.val _) ?_)
          have r1 := spanL_ge idw A q s h n i (by omega)
          have r2 := spanH_le idw B q s h n i (by omega)
          exact (fail i (by omega) (by omega)).symm
        · refine Ev.ite_neg hlt (Ev.ite_pos (by omega) ?_)
          have := ih (i + 1) (by omega) (fun k hk => by
            rcases Nat.lt_or_ge k i with h1 | h1
            · exact hall k h1
            · rw [show k = i by omega]; omega)
          rw [← tab_snoc] at this
          rw [w64 (by omega) (by omega)]
          rw [show (((i + 1 : Nat)) : Int) = (i : Int) + 1 by omega] at this
          exact this
      cases i with
      | zero =>
        refine Ev.ite_neg (by decide) ?_
        exact next _ _ rfl rfl
      | succ i =>
        have r1 := hall i (by omega)
        have r2 := fwdL_ge idw A q i
        have r3 := fwdH_le idw B s h i
        have r4 := hA' i (by omega)
        have r5 := hB' i (by omega)
        have r6 := hA' (i + 1) (by omega)
        have r7 := hB' (i + 1) (by omega)
        refine Ev.ite_pos (by omega) ?_
        rw [show (((i + 1 : Nat)) : Int) - 1 = (i : Int) by omega, w64 (show -9223372036854775808 ≤ (i : Int) by omega) (by omega)]
        simp only [most i (by omega), Option.bind_some]
        rw [tab_rd (i + 1) _ i (by omega)]
        rw [w64 (show -9223372036854775808 ≤ fwdL idw A q i + q by omega) (by omega), spec_max]
        have b1 : -9223372036854775808 ≤ fwdH idw B s h i + (if h i = true then 10000 else s) := by split <;> omega
        have b2 : fwdH idw B s h i + (if h i = true then 10000 else s) ≤ 9223372036854775807 := by split <;> omega
        rw [w64 b1 b2]
        simp only [spec_min, Option.bind_some]
        refine Ev.ite_pos (by omega) (Ev.ite_pos (by omega) ?_)
        refine next _ _ ?_ ?_
        · simp only [fwdL, idw]
        · simp only [fwdH, idw]
          split <;> omega
  have := forth (n + 1) 0 (by omega) (fun k hk => by omega)
  unfold spec_l24Spans.f
  exact this
theorem findN_same {ρ : Type} (P : Nat → Bool) (r0 r : ρ) : ∀ d i, allN P d i = false → findN (fun j => !P j) (fun _ => r0) r d i = r0
  | 0, _, h => by simp [allN, findN] at h
  | d + 1, i, h => by
    simp only [allN, findN] at h ⊢
    by_cases hp : (!P i) = true
    · rw [if_pos hp]
    · rw [if_neg hp] at h ⊢
      exact findN_same P r0 r d (i + 1) h
theorem mx_eq (a b : Int) : mx a b = max a b := by
  unfold mx
  split <;> omega
theorem mn_eq (a b : Int) : mn a b = min a b := by
  unfold mn
  split <;> omega
def begA (l : List S88) (f : Int) (b : List Int) (k : Nat) : Int := if k < b.length then max (loAt l f k) (rd b (k : Int)) else loAt l f k
def begB (l : List S88) (f : Int) (b : List Int) (k : Nat) : Int := if k < b.length then min (hiAt l f k) (rd b (k : Int)) else hiAt l f k
theorem zrep (n : Nat) : List.replicate n z46 = tab n (fun _ => z46) := by
  apply List.ext_getElem?
  intro j
  rcases Nat.lt_or_ge j n with hj | hj
  · rw [tab_get n _ j hj, List.getElem?_replicate, if_pos hj]
  · rw [List.getElem?_eq_none (by rw [List.length_replicate]; omega), List.getElem?_eq_none (by rw [tab_length]; omega)]
theorem impl_spans (q s : Int) (l : List S88) (f b : Int) (beg : List Int) (hn : l.length ≤ 40) :
    Ev (fun k => impl_FlyPath_spans.f k q s l f b beg) (spansR wrap64 (begA l f beg) (begB l b beg) q s (holdAt l) l.length) := by
  obtain ⟨n, hnl⟩ : ∃ n, n = l.length := ⟨_, rfl⟩
  obtain ⟨A, hA⟩ : ∃ A, A = begA l f beg := ⟨_, rfl⟩
  obtain ⟨B, hB⟩ : ∃ B, B = begB l b beg := ⟨_, rfl⟩
  obtain ⟨h, hh⟩ : ∃ h, h = holdAt l := ⟨_, rfl⟩
  rw [← hA, ← hB, ← hh, ← hnl]
  rw [← hnl] at hn
  -- the check
  have check : Ev (fun k => impl_FlyPath_spans.l3 k (tab (n + 1) (fun j => (⟨spanL wrap64 A q s h n j, spanH wrap64 B q s h n j⟩ : S46))) (tab (n + 1) (fun j => (⟨spanL wrap64 A q s h n j, spanH wrap64 B q s h n j⟩ : S46))) ((tab (n + 1) (fun j => (⟨spanL wrap64 A q s h n j, spanH wrap64 B q s h n j⟩ : S46))).length : Int) 0) (spansR wrap64 A B q s h n) := by
    have round : ∀ i : Nat, i < n + 1 → ∀ k, impl_FlyPath_spans.l3 (k + 1) (tab (n + 1) (fun j => (⟨spanL wrap64 A q s h n j, spanH wrap64 B q s h n j⟩ : S46))) (tab (n + 1) (fun j => (⟨spanL wrap64 A q s h n j, spanH wrap64 B q s h n j⟩ : S46))) ((n + 1 : Nat) : Int) (i : Int) = if spanL wrap64 A q s h n i > spanH wrap64 B q s h n i then (some (([] : List S46), false)) else impl_FlyPath_spans.l3 k (tab (n + 1) (fun j => (⟨spanL wrap64 A q s h n j, spanH wrap64 B q s h n j⟩ : S46))) (tab (n + 1) (fun j => (⟨spanL wrap64 A q s h n j, spanH wrap64 B q s h n j⟩ : S46))) ((n + 1 : Nat) : Int) ((i : Int) + 1) := by
      intro i hi k
      simp only [impl_FlyPath_spans.l3, tab_length]
      rw [if_pos (show (i : Int) < ((n + 1 : Nat) : Int) by omega), if_pos (show (0 : Int) ≤ i by omega), tab_rd (n + 1) _ i hi, w64 (show -9223372036854775808 ≤ (i : Int) + 1 by omega) (by omega), if_pos (show (i : Int) < ((n + 1 : Nat) : Int) by omega)]
    rw [tab_length]
    have := find_loop (F := fun k i => impl_FlyPath_spans.l3 k (tab (n + 1) (fun j => (⟨spanL wrap64 A q s h n j, spanH wrap64 B q s h n j⟩ : S46))) (tab (n + 1) (fun j => (⟨spanL wrap64 A q s h n j, spanH wrap64 B q s h n j⟩ : S46))) ((n + 1 : Nat) : Int) i) (n + 1) (fun j => !decide (spanL wrap64 A q s h n j ≤ spanH wrap64 B q s h n j)) (fun _ => (([] : List S46), false)) (tab (n + 1) (fun j => (⟨spanL wrap64 A q s h n j, spanH wrap64 B q s h n j⟩ : S46)), true) (fun i hi hp => Ev.step (round i hi) (Ev.ite_pos (by have := hp; simp at this; omega) (Ev.val _)))
      (fun i hi hp r' hr => Ev.step (round i hi) (Ev.ite_neg (by have := hp; simp at this; omega) hr)) (Ev.step (fun k => by
        simp only [impl_FlyPath_spans.l3]
        rw [if_neg (by omega)]) (Ev.val _)) (n + 1) 0 (by omega)
    refine Ev.cast this ?_
    unfold spansR spansOk
    by_cases hok : allN (fun k => decide (spanL wrap64 A q s h n k ≤ spanH wrap64 B q s h n k)) (n + 1) 0 = true
    · rw [if_pos hok]
      refine findN_none (n + 1) 0 (fun j h1 h2 => ?_)
      have := (allN_iff (n + 1) 0).1 hok j h1 h2
      simp only [this, Bool.not_true]
    · rw [if_neg hok]
      have ne := Bool.eq_false_iff.2 hok
      generalize hP : (fun k => decide (spanL wrap64 A q s h n k ≤ spanH wrap64 B q s h n k)) = P at ne
      have e : (fun j => !decide (spanL wrap64 A q s h n j ≤ spanH wrap64 B q s h n j)) = fun j => !P j := by rw [← hP]
      rw [e]
      exact findN_same P _ _ (n + 1) 0 ne
  -- back
  have back : ∀ i, i ≤ n → Ev (fun k => impl_FlyPath_spans.l2 k (tab (n + 1) (fun j => if i ≤ j then (⟨spanL wrap64 A q s h n j, spanH wrap64 B q s h n j⟩ : S46) else ⟨fwdL wrap64 A q j, fwdH wrap64 B s h j⟩)) ((i : Int) - 1) q s l f b) (spansR wrap64 A B q s h n) := by
    intro i
    induction i with
    | zero =>
      intro hi
      refine Ev.succ ?_
      simp only [impl_FlyPath_spans.l2]
      refine Ev.ite_neg (by omega) ?_
      have := check
      rw [tab_congr (n + 1) (fun j => (⟨spanL wrap64 A q s h n j, spanH wrap64 B q s h n j⟩ : S46)) (fun j => if 0 ≤ j then (⟨spanL wrap64 A q s h n j, spanH wrap64 B q s h n j⟩ : S46) else ⟨fwdL wrap64 A q j, fwdH wrap64 B s h j⟩) (fun j hj => by rw [if_pos (Nat.zero_le j)])] at this
      exact this
    | succ i ih =>
      intro hi
      refine Ev.succ ?_
      simp only [impl_FlyPath_spans.l2, show (((i + 1 : Nat) : Int)) - 1 = (i : Int) by omega, Option.bind_some]
      rw [w64 (show -9223372036854775808 ≤ (i : Int) + 1 by omega) (by omega)]
      simp only [tab_length]
      rw [show ((i : Int) + 1) = (((i + 1 : Nat)) : Int) by omega]
      rw [tab_rd (n + 1) _ i (by omega), tab_rd (n + 1) _ (i + 1) (by omega), if_neg (show ¬ i + 1 ≤ i by omega), if_pos (Nat.le_refl (i + 1))]
      refine Ev.ite_pos (by omega) (Ev.ite_pos (by omega) (Ev.ite_pos (by omega) (Ev.ite_pos (by omega) (Ev.ite_pos (by omega) (Ev.ite_pos (by omega) ?_)))))
      simp only [Int.toNat_natCast, mn_eq]
      rw [← spanH_step wrap64 B q s h n i (by omega)]
      rw [tab_set (n + 1) _ i _ (by omega), tab_rd (n + 1) _ i (by omega), tab_rd (n + 1) _ (i + 1) (by omega), if_pos rfl, if_neg (show ¬ i + 1 = i by omega), if_pos (Nat.le_refl (i + 1))]
      rw [w64 (show -9223372036854775808 ≤ (i : Int) - 1 by omega) (by omega)]
      have next := ih (by omega)
      have eL := spanL_step wrap64 A q s h n i (by omega)
      have hhi : ((rd_T88 l (i : Int)).f6 = true) = (h i = true) := by rw [hh]; rfl
      simp only [hhi]
      by_cases hi6 : h i = true
      · refine Ev.ite_pos hi6 ?_
        rw [if_pos hi6] at eL
        rw [tab_congr (n + 1) _ (fun j => if i ≤ j then (⟨spanL wrap64 A q s h n j, spanH wrap64 B q s h n j⟩ : S46) else ⟨fwdL wrap64 A q j, fwdH wrap64 B s h j⟩) (fun j hj => by
          by_cases e : j = i
          · rw [if_pos e, if_pos (by omega), e, eL]
          · rw [if_neg e]
            by_cases e2 : i + 1 ≤ j
            · rw [if_pos e2, if_pos (by omega)]
            · rw [if_neg e2, if_neg (by omega)])]
        exact next
      · refine Ev.ite_neg hi6 ?_
        rw [if_neg hi6] at eL
        rw [mx_eq, ← eL, tab_set (n + 1) _ i _ (by omega)]
        rw [tab_congr (n + 1) _ (fun j => if i ≤ j then (⟨spanL wrap64 A q s h n j, spanH wrap64 B q s h n j⟩ : S46) else ⟨fwdL wrap64 A q j, fwdH wrap64 B s h j⟩) (fun j hj => by
          by_cases e : j = i
          · rw [if_pos e, if_pos (by omega), e]
          · rw [if_neg e, if_neg e]
            by_cases e2 : i + 1 ≤ j
            · rw [if_pos e2, if_pos (by omega)]
            · rw [if_neg e2, if_neg (by omega)])]
        exact next
  -- forward
  have forth : ∀ (d i : Nat), i + d = n → Ev (fun k => impl_FlyPath_spans.l1 k (n : Int) (tab (n + 1) (fun j => if j ≤ i then (⟨fwdL wrap64 A q j, fwdH wrap64 B s h j⟩ : S46) else ⟨A j, B j⟩)) ((i : Int) + 1) q s l f b) (spansR wrap64 A B q s h n) := by
    intro d
    induction d with
    | zero =>
      intro i hi
      refine Ev.succ ?_
      simp only [impl_FlyPath_spans.l1]
      refine Ev.ite_neg (by omega) ?_
      rw [w64 (show -9223372036854775808 ≤ (n : Int) - 1 by omega) (by omega)]
      have := back n (Nat.le_refl _)
      rw [tab_congr (n + 1) _ (fun j => if n ≤ j then (⟨spanL wrap64 A q s h n j, spanH wrap64 B q s h n j⟩ : S46) else ⟨fwdL wrap64 A q j, fwdH wrap64 B s h j⟩) (fun j hj => by
        rw [if_pos (show j ≤ i by omega)]
        by_cases e : n ≤ j
        · rw [if_pos e, show j = n by omega, spanL_last, spanH_last]
        · rw [if_neg e])]
      exact this
    | succ d ih =>
      intro i hi
      refine Ev.succ ?_
      simp only [impl_FlyPath_spans.l1, Option.bind_some, tab_length]
      rw [show (i : Int) + 1 - 1 = (i : Int) by omega, w64 (show -9223372036854775808 ≤ (i : Int) by omega) (by omega), show ((i : Int) + 1) = (((i + 1 : Nat)) : Int) by omega]
      rw [tab_rd (n + 1) _ i (by omega), tab_rd (n + 1) _ (i + 1) (by omega), if_neg (show ¬ i + 1 ≤ i by omega), if_pos (Nat.le_refl i)]
      refine Ev.ite_pos (by omega) (Ev.ite_pos (by omega) (Ev.ite_pos (by omega) (Ev.ite_pos (by omega) (Ev.ite_pos (by omega) (Ev.ite_pos (by omega) ?_)))))
      simp only [Int.toNat_natCast, mx_eq]
      rw [tab_set (n + 1) _ (i + 1) _ (by omega), tab_rd (n + 1) _ i (by omega), tab_rd (n + 1) _ (i + 1) (by omega), if_pos rfl, if_neg (show ¬ i = i + 1 by omega), if_pos (Nat.le_refl i)]
      rw [w64 (show -9223372036854775808 ≤ (((i + 1 : Nat)) : Int) + 1 by omega) (by omega)]
      have next := ih (i + 1) (by omega)
      have hhi : ((rd_T88 l (i : Int)).f6 = true) = (h i = true) := by rw [hh]; rfl
      simp only [hhi]
      by_cases hi6 : h i = true
      · refine Ev.ite_pos hi6 ?_
        rw [tab_congr (n + 1) _ (fun j => if j ≤ i + 1 then (⟨fwdL wrap64 A q j, fwdH wrap64 B s h j⟩ : S46) else ⟨A j, B j⟩) (fun j hj => by
          by_cases e : j = i + 1
          · rw [if_pos e, if_pos (by omega), e]
            simp only [fwdL, fwdH, if_pos hi6]
          · rw [if_neg e]
            by_cases e2 : j ≤ i
            · rw [if_pos e2, if_pos (by omega)]
            · rw [if_neg e2, if_neg (by omega)])]
        exact next
      · refine Ev.ite_neg hi6 ?_
        rw [mn_eq, tab_set (n + 1) _ (i + 1) _ (by omega)]
        rw [tab_congr (n + 1) _ (fun j => if j ≤ i + 1 then (⟨fwdL wrap64 A q j, fwdH wrap64 B s h j⟩ : S46) else ⟨A j, B j⟩) (fun j hj => by
          by_cases e : j = i + 1
          · rw [if_pos e, if_pos (by omega), e]
            simp only [fwdL, fwdH, if_neg hi6]
          · rw [if_neg e, if_neg e]
            by_cases e2 : j ≤ i
            · rw [if_pos e2, if_pos (by omega)]
            · rw [if_neg e2, if_neg (by omega)])]
        exact next
  -- the windows
  have wins : ∀ (d i : Nat), i + d = n + 1 → Ev (fun k => impl_FlyPath_spans.l0 k beg (n : Int) (tab (n + 1) (fun j => if j < i then (⟨A j, B j⟩ : S46) else z46)) ((n + 1 : Nat) : Int) (i : Int) q s l f b) (spansR wrap64 A B q s h n) := by
    intro d
    induction d with
    | zero =>
      intro i hi
      refine Ev.succ ?_
      simp only [impl_FlyPath_spans.l0]
      refine Ev.ite_neg (by omega) ?_
      have := forth n 0 (by omega)
      rw [tab_congr (n + 1) _ (fun j => if j ≤ 0 then (⟨fwdL wrap64 A q j, fwdH wrap64 B s h j⟩ : S46) else ⟨A j, B j⟩) (fun j hj => by
        rw [if_pos (show j < i by omega)]
        by_cases e : j ≤ 0
        · rw [if_pos e, show j = 0 by omega]; rfl
        · rw [if_neg e])]
      exact this
    | succ d ih =>
      intro i hi
      refine Ev.succ ?_
      simp only [impl_FlyPath_spans.l0, Option.bind_some, tab_length]
      refine Ev.ite_pos (by omega) ?_
      rw [impl_bound q s l f b (i : Int) (by omega) (by omega)]
      simp only [Option.bind_some, Int.toNat_natCast]
      rw [tab_rd (n + 1) _ i (by omega), if_neg (show ¬ i < i by omega), tab_set (n + 1) _ i _ (by omega)]
      rw [tab_rd (n + 1) _ i (by omega), if_pos rfl, tab_set (n + 1) _ i _ (by omega)]
      rw [tab_rd (n + 1) _ i (by omega), if_pos rfl, tab_set (n + 1) _ i _ (by omega)]
      rw [tab_rd (n + 1) _ i (by omega), if_pos rfl, tab_set (n + 1) _ i _ (by omega)]
      rw [w64 (show -9223372036854775808 ≤ (i : Int) + 1 by omega) (by omega)]
      refine Ev.ite_pos (by omega) (Ev.ite_pos (by omega) ?_)
      have next := ih (i + 1) (by omega)
      rw [show (((i + 1 : Nat)) : Int) = (i : Int) + 1 by omega] at next
      by_cases hb : i < beg.length
      · refine Ev.ite_pos (by omega) ?_
        rw [mx_eq, mn_eq]
        rw [tab_congr (n + 1) _ (fun j => if j < i + 1 then (⟨A j, B j⟩ : S46) else z46) (fun j hj => by
          by_cases e : j = i
          · simp only [if_pos e]
            rw [if_pos (by omega), e, hA, hB]
            unfold begA begB
            rw [if_pos hb, if_pos hb]
          · simp only [if_neg e]
            by_cases e2 : j < i
            · rw [if_pos e2, if_pos (by omega)]
            · rw [if_neg e2, if_neg (by omega)])]
        exact next
      · refine Ev.ite_neg (by omega) ?_
        rw [tab_congr (n + 1) _ (fun j => if j < i + 1 then (⟨A j, B j⟩ : S46) else z46) (fun j hj => by
          by_cases e : j = i
          · simp only [if_pos e]
            rw [if_pos (by omega), e, hA, hB]
            unfold begA begB
            rw [if_neg hb, if_neg hb]
          · simp only [if_neg e]
            by_cases e2 : j < i
            · rw [if_pos e2, if_pos (by omega)]
            · rw [if_neg e2, if_neg (by omega)])]
        exact next
  unfold impl_FlyPath_spans.f
  rw [← hnl, w64 (show -9223372036854775808 ≤ (n : Int) + 1 by omega) (by omega), show ((n : Int) + 1).toNat = n + 1 by omega, zrep]
  refine Ev.ite_pos (by omega) (Ev.ite_pos (by omega) ?_)
  simp only [Option.bind_some, tab_length]
  have := wins (n + 1) 0 (by omega)
  rw [tab_congr (n + 1) (fun _ => z46) (fun j => if j < 0 then (⟨A j, B j⟩ : S46) else z46) (fun j hj => by rw [if_neg (by omega)])]
  exact this
def spansOf (q s : Int) (l : List S88) (f b : Int) : List S46 × Bool := if pathOk q s l f b = true then spansR idw (fun k => loAt l f k) (fun k => hiAt l b k) q s (holdAt l) l.length else ([], false)
theorem spansR_length (w : Int → Int) (A B : Nat → Int) (q s : Int) (h : Nat → Bool) (n : Nat) : (spansR w A B q s h n).1.length ≤ n + 1 := by
  unfold spansR
  split
  · rw [tab_length]; exact Nat.le_refl _
  · exact Nat.zero_le _
theorem spansOf_length (q s : Int) (l : List S88) (f b : Int) : (spansOf q s l f b).1.length ≤ 41 := by
  unfold spansOf
  by_cases h : pathOk q s l f b = true
  · rw [if_pos h]
    have := spansR_length idw (fun k => loAt l f k) (fun k => hiAt l b k) q s (holdAt l) l.length
    have := (pathOk_facts h).2.1.2
    omega
  · rw [if_neg h]; exact Nat.zero_le _
theorem spec_spans_ok {q s : Int} {l : List S88} {f b : Int} (h : pathOk q s l f b = true) : Ev (fun k => spec_l24Spans.f k q s l f b) (spansR idw (fun k => loAt l f k) (fun k => hiAt l b k) q s (holdAt l) l.length) := by
  have hf := pathOk_facts h
  exact spec_spans q s l f b hf.1 hf.2.1.2 (fun k _ => by have := loAt_range h k; omega) (fun k _ => by have := loAt_range h k; omega)
theorem impl_spans_nil {q s : Int} {l : List S88} {f b : Int} (h : pathOk q s l f b = true) : Ev (fun k => impl_FlyPath_spans.f k q s l f b []) (spansR idw (fun k => loAt l f k) (fun k => hiAt l b k) q s (holdAt l) l.length) := by
  have hf := pathOk_facts h
  have := impl_spans q s l f b [] hf.2.1.2
  have e1 : begA l f [] = fun k : Nat => loAt l f (k : Int) := by funext k; unfold begA; rw [if_neg (by simp)]
  have e2 : begB l b [] = fun k : Nat => hiAt l b (k : Int) := by funext k; unfold begB; rw [if_neg (by simp)]
  rw [e1, e2, spansR_wrap _ _ q s _ _ hf.2.1.2 hf.1 (fun k _ => (loAt_range h k).1) (fun k _ => (loAt_range h k).2.2)] at this
  exact this
/-! #### a path held at its begun ticks -/
def holdStep (x : S88) (t : Int) : S88 := ⟨x.f0, x.f1, x.f2, x.f3, max x.f4 t, min x.f5 t, x.f6⟩
def heldUp (l : List S88) (beg : List Int) (i : Nat) : List S88 := tab l.length (fun j => if j < i then holdStep (rd_T88 l (j : Int)) (rd beg (j : Int)) else rd_T88 l (j : Int))
theorem heldUp_zero (l : List S88) (beg : List Int) : heldUp l beg 0 = l := by
  unfold heldUp
  apply List.ext_getElem?
  intro j
  rcases Nat.lt_or_ge j l.length with hj | hj
  · rw [tab_get _ _ j hj, if_neg (by omega), List.getElem?_eq_getElem hj]
    congr 1
    show l.getD ((j : Int)).toNat _ = l[j]
    rw [Int.toNat_natCast, List.getD_eq_getElem?_getD, List.getElem?_eq_getElem hj]; rfl
  · rw [List.getElem?_eq_none (by rw [tab_length]; omega), List.getElem?_eq_none (by omega)]
theorem tab_rdS (n : Nat) (g : Nat → S88) (i : Nat) (hi : i < n) : rd_T88 (tab n g) (i : Int) = g i := by
  show (tab n g).getD ((i : Int)).toNat _ = g i
  rw [Int.toNat_natCast, List.getD_eq_getElem?_getD, tab_get n g i hi]; rfl
theorem heldUp_length (l : List S88) (beg : List Int) (i : Nat) : (heldUp l beg i).length = l.length := tab_length _ _
theorem heldUp_rd (l : List S88) (beg : List Int) (i j : Nat) (hj : j < l.length) : rd_T88 (heldUp l beg i) (j : Int) = if j < i then holdStep (rd_T88 l (j : Int)) (rd beg (j : Int)) else rd_T88 l (j : Int) := tab_rdS _ _ j hj
theorem heldUp_set (l : List S88) (beg : List Int) (i : Nat) (hi : i < l.length) : (heldUp l beg i).set i (holdStep (rd_T88 l (i : Int)) (rd beg (i : Int))) = heldUp l beg (i + 1) := by
  unfold heldUp
  rw [tab_set _ _ i _ hi]
  refine tab_congr _ _ _ (fun j hj => ?_)
  by_cases e : j = i
  · rw [if_pos e, if_pos (by omega), e]
  · rw [if_neg e]
    by_cases e2 : j < i
    · rw [if_pos e2, if_pos (by omega)]
    · rw [if_neg e2, if_neg (by omega)]
def heldF (l : List S88) (f : Int) (beg : List Int) : Int := if l.length < beg.length then max f (rd beg (l.length : Int)) else f
def heldB (l : List S88) (b : Int) (beg : List Int) : Int := if l.length < beg.length then min b (rd beg (l.length : Int)) else b
theorem spec_held (q s : Int) (l : List S88) (f b : Int) (beg : List Int) (hl : l.length ≤ 40) (hb : beg.length ≤ l.length + 1) : Ev (fun k => spec_l26Held.f k q s l f b beg) (q, s, heldUp l beg beg.length, heldF l f beg, heldB l b beg) := by
  have loop : ∀ d i : Nat, i + d = beg.length → i ≤ l.length → Ev (fun k => spec_l26Held.l0 k beg (i : Int) q s (heldUp l beg i) f b) (q, s, heldUp l beg beg.length, heldF l f beg, heldB l b beg) := by
    intro d
    induction d with
    | zero =>
      intro i hi hil
      refine Ev.succ ?_
      simp only [spec_l26Held.l0]
      refine Ev.ite_neg (by omega) (Ev.cast (Ev.val _) ?_)
      unfold heldF heldB
      rw [if_neg (by omega), if_neg (by omega), show i = beg.length by omega]
    | succ d ih =>
      intro i hi hil
      refine Ev.succ ?_
      simp only [spec_l26Held.l0, heldUp_length]
      refine Ev.ite_pos (by omega) ?_
      rw [w64 (show -9223372036854775808 ≤ (i : Int) + 1 by omega) (by omega)]
      by_cases hil' : i < l.length
      · refine Ev.ite_pos (by omega) (Ev.ite_pos (by omega) ?_)
        simp only [spec_max, spec_min, Option.bind_some, Int.toNat_natCast]
        have r1 : ∀ v : S88, rd_T88 ((heldUp l beg i).set i v) (i : Int) = v := fun v => by
          show ((heldUp l beg i).set i v).getD ((i : Int)).toNat _ = v
          rw [Int.toNat_natCast, List.getD_eq_getElem?_getD, List.getElem?_set_self (by rw [heldUp_length]; omega)]; rfl
        simp only [r1, List.set_set, heldUp_rd l beg i i hil', if_neg (show ¬ i < i by omega)]
        have := ih (i + 1) (by omega) (by omega)
        rw [← heldUp_set l beg i hil', show (((i + 1 : Nat)) : Int) = (i : Int) + 1 by omega] at this
        exact this
      · refine Ev.ite_neg (by omega) (Ev.ite_pos (by omega) ?_)
        simp only [spec_max, spec_min, Option.bind_some]
        refine Ev.succ ?_
        simp only [spec_l26Held.l0]
        refine Ev.ite_neg (by omega) (Ev.cast (Ev.val _) ?_)
        have e1 : i = l.length := by omega
        have e2 : beg.length = l.length + 1 := by omega
        unfold heldF heldB
        rw [if_pos (by omega), if_pos (by omega), e1, e2]
        have e3 : heldUp l beg l.length = heldUp l beg (l.length + 1) := by
          unfold heldUp
          refine tab_congr _ _ _ (fun j hj => ?_)
          rw [if_pos hj, if_pos (by omega)]
        rw [e3]
  unfold spec_l26Held.f spec_l22Copy.f
  have := loop beg.length 0 (by omega) (by omega)
  rw [heldUp_zero] at this
  simp only [Option.bind_some, List.nil_append]
  rw [if_pos (by simp only [List.length_nil]; omega)]
  exact this
theorem held_lo (l : List S88) (f : Int) (beg : List Int) (k : Nat) (hk : k ≤ l.length) : loAt (heldUp l beg beg.length) (heldF l f beg) (k : Int) = begA l f beg k := by
  unfold loAt begA heldF
  rw [heldUp_length]
  unfold loAt
  by_cases h : k < l.length
  · rw [if_pos (by omega), heldUp_rd l beg _ k h, if_pos (show (k : Int) < (l.length : Int) by omega)]
    by_cases hb : k < beg.length
    · rw [if_pos hb, if_pos hb]; rfl
    · rw [if_neg hb, if_neg hb]
  · have e : k = l.length := by omega
    rw [if_neg (by omega), if_neg (show ¬ (k : Int) < (l.length : Int) by omega), e]
theorem held_hi (l : List S88) (b : Int) (beg : List Int) (k : Nat) (hk : k ≤ l.length) : hiAt (heldUp l beg beg.length) (heldB l b beg) (k : Int) = begB l b beg k := by
  unfold hiAt begB heldB
  rw [heldUp_length]
  unfold hiAt
  by_cases h : k < l.length
  · rw [if_pos (by omega), heldUp_rd l beg _ k h, if_pos (show (k : Int) < (l.length : Int) by omega)]
    by_cases hb : k < beg.length
    · rw [if_pos hb, if_pos hb]; rfl
    · rw [if_neg hb, if_neg hb]
  · have e : k = l.length := by omega
    rw [if_neg (by omega), if_neg (show ¬ (k : Int) < (l.length : Int) by omega), e]
theorem held_hold (l : List S88) (beg : List Int) (k : Nat) (hk : k < l.length) : holdAt (heldUp l beg beg.length) k = holdAt l k := by
  unfold holdAt
  rw [heldUp_rd l beg _ k hk]
  split <;> rfl
/-! #### spans ask for no more than their own places -/
theorem spansR_congr (w : Int → Int) (A B A' B' : Nat → Int) (q s : Int) (h h' : Nat → Bool) (n : Nat) (hA : ∀ k, k ≤ n → A k = A' k) (hB : ∀ k, k ≤ n → B k = B' k) (hh : ∀ k, k < n → h k = h' k) : spansR w A B q s h n = spansR w A' B' q s h' n := by
  have fL : ∀ k, k ≤ n → fwdL w A q k = fwdL w A' q k := by
    intro k
    induction k with
    | zero => intro hk; simp only [fwdL]; exact hA 0 hk
    | succ k ih => intro hk; simp only [fwdL]; rw [hA (k + 1) hk, ih (by omega)]
  have fH : ∀ k, k ≤ n → fwdH w B s h k = fwdH w B' s h' k := by
    intro k
    induction k with
    | zero => intro hk; simp only [fwdH]; exact hB 0 hk
    | succ k ih => intro hk; simp only [fwdH]; rw [hB (k + 1) hk, ih (by omega), hh k (by omega)]
  have bL : ∀ d, d ≤ n → bwdL w A q s h n d = bwdL w A' q s h' n d := by
    intro d
    induction d with
    | zero => intro hd; simp only [bwdL]; exact fL n (Nat.le_refl _)
    | succ d ih => intro hd; simp only [bwdL]; rw [fL _ (by omega), ih (by omega), hh _ (by omega)]
  have bH : ∀ d, d ≤ n → bwdH w B q s h n d = bwdH w B' q s h' n d := by
    intro d
    induction d with
    | zero => intro hd; simp only [bwdH]; exact fH n (Nat.le_refl _)
    | succ d ih => intro hd; simp only [bwdH]; rw [fH _ (by omega), ih (by omega)]
  have eL : ∀ k, k ≤ n → spanL w A q s h n k = spanL w A' q s h' n k := fun k hk => bL _ (by omega)
  have eH : ∀ k, k ≤ n → spanH w B q s h n k = spanH w B' q s h' n k := fun k hk => bH _ (by omega)
  have eo : spansOk w A B q s h n = spansOk w A' B' q s h' n := by
    apply Bool.eq_iff_iff.2
    rw [spansOk_iff, spansOk_iff]
    exact ⟨fun hh k hk => by rw [← eL k hk, ← eH k hk]; exact hh k hk, fun hh k hk => by rw [eL k hk, eH k hk]; exact hh k hk⟩
  unfold spansR
  rw [eo, tab_congr (n + 1) _ (fun k => (⟨spanL w A' q s h' n k, spanH w B' q s h' n k⟩ : S46)) (fun j hj => by rw [eL j (by omega), eH j (by omega)])]
def nextOf (q s : Int) (l : List S88) (f b : Int) (beg : List Int) : Int × Int × Bool :=
  if pathOk q s l f b = true ∧ beg.length ≤ l.length then
    (if spansOk idw (begA l f beg) (begB l b beg) q s (holdAt l) l.length = true then (spanL idw (begA l f beg) q s (holdAt l) l.length beg.length, spanH idw (begB l b beg) q s (holdAt l) l.length beg.length, true) else (0, 0, false))
  else (0, 0, false)
theorem beg_range {q s : Int} {l : List S88} {f b : Int} (h : pathOk q s l f b = true) (beg : List Int) (hb : ∀ x ∈ beg, I64 x) (k : Nat) : (0 ≤ begA l f beg k ∧ begA l f beg k ≤ 9223372036854775807) ∧ (-9223372036854775808 ≤ begB l b beg k ∧ begB l b beg k ≤ 10000) := by
  have r := loAt_range h k
  unfold begA begB
  by_cases hk : k < beg.length
  · have m : I64 (rd beg (k : Int)) := by
      have e : rd beg (k : Int) = beg[k] := by
        show beg.getD ((k : Int)).toNat _ = beg[k]
        rw [Int.toNat_natCast, List.getD_eq_getElem?_getD, List.getElem?_eq_getElem hk]; rfl
      rw [e]; exact hb _ (List.getElem_mem hk)
    obtain ⟨m1, m2⟩ := m
    rw [if_pos hk, if_pos hk]
    omega
  · rw [if_neg hk, if_neg hk]
    omega
theorem take_span (w : Int → Int) (A B : Nat → Int) (q s : Int) (h : Nat → Bool) (n m : Nat) (hm : m ≤ n) (hn : n ≤ 40) {g : Nat → Option (List S46 × Bool)} {F : Nat → Option (Int × Int × Bool)}
    (hg : Ev g (spansR w A B q s h n))
    (hF : ∀ k, F k = (g k).bind fun bt => (if bt.2 = true then (if 0 ≤ (m : Int) then (if (m : Int) < (bt.1.length : Int) then (some ((rd_T46 bt.1 (m : Int)).f0, (rd_T46 bt.1 (m : Int)).f1, true)) else none) else none) else (some (0, 0, false)))) :
    Ev F (if spansOk w A B q s h n = true then (spanL w A q s h n m, spanH w B q s h n m, true) else (0, 0, false)) := by
  refine Ev.congr hF (Ev.bind hg ?_)
  unfold spansR
  by_cases hok : spansOk w A B q s h n = true
  · rw [if_pos hok, if_pos hok]
    refine Ev.ite_pos rfl (Ev.ite_pos (by omega) (Ev.ite_pos (by simp only [tab_length]; omega) (Ev.cast (Ev.val _) ?_)))
    simp only [tab_rd (n + 1) _ m (by omega)]
  · rw [if_neg hok, if_neg hok]
    exact Ev.ite_neg (by decide) (Ev.val _)
theorem spec_next_law (q s : Int) (l : List S88) (f b : Int) (beg : List Int) (hb : ∀ x ∈ beg, I64 x) : Ev (fun k => spec_FlyNext.f k q s l f b beg) (nextOf q s l f b beg) := by
  unfold spec_FlyNext.f nextOf
  refine Ev.bind (spec_pathOk q s l f b) ?_
  by_cases h : pathOk q s l f b = true
  · refine Ev.ite_pos h ?_
    have hf := pathOk_facts h
    refine Ev.succ ?_
    simp only [spec_FlyNext.j0]
    by_cases hc : beg.length ≤ l.length
    · rw [if_pos ⟨h, hc⟩]
      refine Ev.ite_neg (by simp; omega) (Ev.bind (spec_held q s l f b beg hf.2.1.2 (by omega)) ?_)
      have hs := spec_spans q s (heldUp l beg beg.length) (heldF l f beg) (heldB l b beg) hf.1 (by rw [heldUp_length]; exact hf.2.1.2) (fun k hk => by
        rw [heldUp_length] at hk
        rw [held_lo l f beg k hk]
        exact (beg_range h beg hb k).1) (fun k hk => by
        rw [heldUp_length] at hk
        rw [held_hi l b beg k hk]
        exact (beg_range h beg hb k).2)
      rw [heldUp_length, spansR_congr idw _ _ (begA l f beg) (begB l b beg) q s _ (holdAt l) l.length (fun k hk => held_lo l f beg k hk) (fun k hk => held_hi l b beg k hk) (fun k hk => held_hold l beg k hk)] at hs
      exact take_span idw (begA l f beg) (begB l b beg) q s (holdAt l) l.length beg.length hc hf.2.1.2 hs (fun k => rfl)
    · rw [if_neg (fun hh => hc hh.2)]
      exact Ev.ite_pos (by simp; omega) (Ev.val _)
  · rw [if_neg (fun hh => h hh.1)]
    refine Ev.ite_neg h (Ev.succ ?_)
    simp only [spec_FlyNext.j0]
    exact Ev.ite_pos trivial (Ev.val _)
theorem impl_next_law (q s : Int) (l : List S88) (f b : Int) (beg : List Int) (hb : ∀ x ∈ beg, I64 x) : Ev (fun k => impl_FlyNext.f k q s l f b beg) (nextOf q s l f b beg) := by
  unfold impl_FlyNext.f nextOf
  refine Ev.bind (impl_pathOk q s l f b) ?_
  by_cases h : pathOk q s l f b = true
  · refine Ev.ite_pos h ?_
    have hf := pathOk_facts h
    refine Ev.succ ?_
    simp only [impl_FlyNext.j0]
    by_cases hc : beg.length ≤ l.length
    · rw [if_pos ⟨h, hc⟩]
      refine Ev.ite_neg (by simp; omega) ?_
      have hs := impl_spans q s l f b beg hf.2.1.2
      rw [spansR_wrap _ _ q s _ _ hf.2.1.2 hf.1 (fun k _ => (beg_range h beg hb k).1.1) (fun k _ => (beg_range h beg hb k).2.2)] at hs
      exact take_span idw (begA l f beg) (begB l b beg) q s (holdAt l) l.length beg.length hc hf.2.1.2 hs (fun k => rfl)
    · rw [if_neg (fun hh => hc hh.2)]
      exact Ev.ite_pos (by simp; omega) (Ev.val _)
  · rw [if_neg (fun hh => h hh.1)]
    refine Ev.ite_neg h (Ev.succ ?_)
    simp only [impl_FlyNext.j0]
    exact Ev.ite_pos trivial (Ev.val _)
/-! #### flights that keep to a path -/
def keepsAt (q s : Int) (l : List S88) (f b : Int) (t : List Int) (i : Nat) : Bool := decide (loAt l f i ≤ rd t (i : Int) ∧ rd t (i : Int) ≤ hiAt l b i) && (decide (i = 0) || decide (q ≤ rd t (i : Int) - rd t ((i : Int) - 1) ∧ ((rd_T88 l ((i : Int) - 1)).f6 = true ∨ rd t (i : Int) - rd t ((i : Int) - 1) ≤ s)))
def lawful (q s : Int) (l : List S88) (f b : Int) (t : List Int) : Bool := pathOk q s l f b && (decide (t.length = l.length + 1) && allN (keepsAt q s l f b t) t.length 0)
def keepsSpec (q s : Int) (l : List S88) (f b : Int) (t : List Int) (i : Nat) : Bool := decide (loAt l f i ≤ rd t (i : Int) ∧ rd t (i : Int) ≤ hiAt l b i) && (decide (i = 0) || decide (q ≤ wrap64 (rd t (i : Int) - rd t ((i : Int) - 1)) ∧ wrap64 (rd t (i : Int) - rd t ((i : Int) - 1)) ≤ mostAt s l ((i : Int) - 1)))
theorem keepsSpec_all {q s : Int} {l : List S88} {f b : Int} (hok : pathOk q s l f b = true) (t : List Int) : allN (keepsSpec q s l f b t) t.length 0 = allN (keepsAt q s l f b t) t.length 0 := by
  refine allN_hist _ _ (fun j _ _ hh => ?_)
  unfold keepsSpec keepsAt
  by_cases hw : loAt l f j ≤ rd t (j : Int) ∧ rd t (j : Int) ≤ hiAt l b j
  · rw [decide_eq_true hw]
    by_cases h0 : j = 0
    · simp [h0]
    · have hp := hh (j - 1) (by omega) (by omega)
      unfold keepsSpec at hp
      rw [Bool.and_eq_true] at hp
      have hp := of_decide_eq_true hp.1
      rw [show (((j - 1 : Nat) : Int)) = (j : Int) - 1 by omega] at hp
      have r1 := loAt_range hok j
      have r0 := loAt_range hok (j - 1)
      rw [show (((j - 1 : Nat) : Int)) = (j : Int) - 1 by omega] at r0
      rw [w64 (by omega) (by omega)]
      congr 2
      apply decide_eq_decide.2
      unfold mostAt
      by_cases hh6 : (rd_T88 l ((j : Int) - 1)).f6 = true
      · rw [if_pos hh6]; simp only [hh6, true_or, and_true]; omega
      · rw [if_neg hh6]; simp [hh6]
  · rw [decide_eq_false hw]
    simp
theorem spec_lawful (q s : Int) (l : List S88) (f b : Int) (t : List Int) (ht : t.length ≤ 9223372036854775807) : Ev (fun k => spec_FlyLawful.f k q s l f b t) (lawful q s l f b t) := by
  unfold spec_FlyLawful.f lawful
  have bad : Ev (fun k => spec_FlyLawful.j0 k t true q s l f b) false := Ev.step (fun k => (by simp only [spec_FlyLawful.j0]; exact if_pos trivial)) (Ev.val _)
  refine Ev.bind (spec_pathOk q s l f b) ?_
  by_cases h1 : pathOk q s l f b = true
  · rw [h1]
    refine Ev.ite_pos rfl ?_
    have hf := pathOk_facts h1
    rw [w64 (by omega) (by omega)]
    refine Ev.succ ?_
    simp only [spec_FlyLawful.j0]
    by_cases h2 : t.length = l.length + 1
    · rw [decide_eq_true h2]
      refine Ev.ite_neg (by rw [bne_iff_ne]; omega) ?_
      rw [← keepsSpec_all h1]
      have round : ∀ (i : Nat), i < t.length → ∀ k, spec_FlyLawful.l0 (k + 1) t i q s l f b = if keepsSpec q s l f b t i = true then spec_FlyLawful.l0 k t ((i : Int) + 1) q s l f b else some false := by
        intro i hi k
        simp only [spec_FlyLawful.l0, if_pos (show (i : Int) < (t.length : Int) by omega), if_pos (show (0 : Int) ≤ i by omega), spec_low q s l f b i (by omega), spec_high q s l f b i (by omega), spec_in, Option.bind_some]
        rw [w64 (show -9223372036854775808 ≤ (i : Int) + 1 by omega) (by omega), w64 (show -9223372036854775808 ≤ (i : Int) - 1 by omega) (by omega)]
        unfold keepsSpec
        by_cases hw : loAt l f i ≤ rd t (i : Int) ∧ rd t (i : Int) ≤ hiAt l b i
        · rw [decide_eq_true hw, if_pos rfl]
          by_cases h0 : i = 0
          · rw [if_neg (by omega)]
            simp [h0]
          · rw [if_pos (show (i : Int) > 0 by omega), if_pos (by omega), if_pos (by omega), spec_most q s l f b ((i : Int) - 1) (by omega) (by omega)]
            simp only [Option.bind_some, Bool.true_and]
            rw [decide_eq_false h0, Bool.false_or]
        · rw [decide_eq_false hw]
          rfl
      refine find_loop (F := fun k i => spec_FlyLawful.l0 k t i q s l f b) t.length (fun j => !keepsSpec q s l f b t j) (fun _ => false) true ?_ ?_ ?_ t.length 0 (by omega)
      · intro i hi hp
        exact Ev.step (round i hi) (Ev.ite_neg (by simpa using hp) (Ev.val _))
      · intro i hi hp r' hr
        exact Ev.step (round i hi) (Ev.ite_pos (by simpa using hp) hr)
      · refine Ev.step (fun k => ?_) (Ev.val _)
        simp only [spec_FlyLawful.l0]
        rw [if_neg (by omega)]
    · rw [decide_eq_false h2]
      exact Ev.ite_pos (by rw [bne_iff_ne]; omega) (Ev.val _)
  · rw [Bool.eq_false_iff.2 h1]
    exact Ev.ite_neg (by decide) bad
def keepsImpl (q s : Int) (l : List S88) (f b : Int) (t : List Int) (i : Nat) : Bool := decide (loAt l f i ≤ rd t (i : Int) ∧ rd t (i : Int) ≤ hiAt l b i) && (decide (i = 0) || decide (wrap64 (rd t ((i : Int) - 1) + q) ≤ rd t (i : Int) ∧ ((rd_T88 l ((i : Int) - 1)).f6 = true ∨ rd t (i : Int) ≤ wrap64 (rd t ((i : Int) - 1) + s))))
theorem keepsImpl_all {q s : Int} {l : List S88} {f b : Int} (hok : pathOk q s l f b = true) (t : List Int) : allN (keepsImpl q s l f b t) t.length 0 = allN (keepsAt q s l f b t) t.length 0 := by
  refine allN_hist _ _ (fun j _ _ hh => ?_)
  unfold keepsImpl keepsAt
  by_cases hw : loAt l f j ≤ rd t (j : Int) ∧ rd t (j : Int) ≤ hiAt l b j
  · rw [decide_eq_true hw]
    by_cases h0 : j = 0
    · simp [h0]
    · have hp := hh (j - 1) (by omega) (by omega)
      unfold keepsImpl at hp
      rw [Bool.and_eq_true] at hp
      have hp := of_decide_eq_true hp.1
      rw [show (((j - 1 : Nat) : Int)) = (j : Int) - 1 by omega] at hp
      have r1 := loAt_range hok j
      have r0 := loAt_range hok (j - 1)
      have hf := pathOk_facts hok
      rw [show (((j - 1 : Nat) : Int)) = (j : Int) - 1 by omega] at r0
      rw [w64 (show -9223372036854775808 ≤ rd t ((j : Int) - 1) + q by omega) (by omega), w64 (show -9223372036854775808 ≤ rd t ((j : Int) - 1) + s by omega) (by omega)]
      congr 2
      apply decide_eq_decide.2
      refine and_congr (by omega) (or_congr Iff.rfl (by omega))
  · rw [decide_eq_false hw]
    simp
theorem impl_lawful (q s : Int) (l : List S88) (f b : Int) (t : List Int) (ht : t.length ≤ 9223372036854775807) : Ev (fun k => impl_FlyLawful.f k q s l f b t) (lawful q s l f b t) := by
  unfold impl_FlyLawful.f lawful
  have bad : Ev (fun k => impl_FlyLawful.j0 k t true q s l f b) false := Ev.step (fun k => (by simp only [impl_FlyLawful.j0]; exact if_pos trivial)) (Ev.val _)
  refine Ev.bind (impl_pathOk q s l f b) ?_
  by_cases h1 : pathOk q s l f b = true
  · rw [h1]
    refine Ev.ite_pos rfl ?_
    have hf := pathOk_facts h1
    rw [w64 (by omega) (by omega)]
    refine Ev.succ ?_
    simp only [impl_FlyLawful.j0]
    by_cases h2 : t.length = l.length + 1
    · rw [decide_eq_true h2]
      refine Ev.ite_neg (by rw [bne_iff_ne]; omega) ?_
      rw [← keepsImpl_all h1]
      have round : ∀ (i : Nat), i < t.length → ∀ k, impl_FlyLawful.l0 (k + 1) t t (t.length : Int) i q s l f b = if keepsImpl q s l f b t i = true then impl_FlyLawful.l0 k t t (t.length : Int) ((i : Int) + 1) q s l f b else some false := by
        intro i hi k
        simp only [impl_FlyLawful.l0, if_pos (show (i : Int) < (t.length : Int) by omega), if_pos (show (0 : Int) ≤ i by omega), impl_bound q s l f b i (by omega) (by omega), impl_in, Option.bind_some]
        rw [w64 (show -9223372036854775808 ≤ (i : Int) + 1 by omega) (by omega), w64 (show -9223372036854775808 ≤ (i : Int) - 1 by omega) (by omega)]
        unfold keepsImpl
        generalize impl_FlyLawful.l0 k t t (t.length : Int) ((i : Int) + 1) q s l f b = r
        by_cases hw : loAt l f i ≤ rd t (i : Int) ∧ rd t (i : Int) ≤ hiAt l b i
        · rw [decide_eq_true hw, if_pos rfl]
          by_cases h0 : i = 0
          · rw [if_neg (by omega)]
            simp [h0]
          · rw [if_pos (show (i : Int) > 0 by omega), if_pos (by omega), if_pos (by omega), if_pos (show (i : Int) - 1 < (l.length : Int) by omega)]
            rw [decide_eq_false h0, Bool.false_or]
            simp only [Bool.true_and, decide_eq_true_eq]
            by_cases c1 : rd t (i : Int) < wrap64 (rd t ((i : Int) - 1) + q)
            · rw [if_pos c1, if_neg (by omega)]
            · rw [if_neg c1]
              by_cases c2 : rd t (i : Int) > wrap64 (rd t ((i : Int) - 1) + s)
              · rw [if_pos c2]
                by_cases c3 : (rd_T88 l ((i : Int) - 1)).f6 = true
                · rw [if_pos c3, if_pos ⟨by omega, .inl c3⟩]
                · rw [if_neg c3, if_neg (fun h => h.2.elim c3 (fun h3 => by omega))]
              · rw [if_neg c2, if_pos ⟨by omega, .inr (by omega)⟩]
        · rw [decide_eq_false hw]
          rfl
      refine find_loop (F := fun k i => impl_FlyLawful.l0 k t t (t.length : Int) i q s l f b) t.length (fun j => !keepsImpl q s l f b t j) (fun _ => false) true ?_ ?_ ?_ t.length 0 (by omega)
      · intro i hi hp
        exact Ev.step (round i hi) (Ev.ite_neg (by simpa using hp) (Ev.val _))
      · intro i hi hp r' hr
        exact Ev.step (round i hi) (Ev.ite_pos (by simpa using hp) hr)
      · refine Ev.step (fun k => ?_) (Ev.val _)
        simp only [impl_FlyLawful.l0]
        rw [if_neg (by omega)]
    · rw [decide_eq_false h2]
      exact Ev.ite_pos (by rw [bne_iff_ne]; omega) (Ev.val _)
  · rw [Bool.eq_false_iff.2 h1]
    exact Ev.ite_neg (by decide) bad
theorem markFlyPath_ev (q s : Int) (l : List S88) (f b : Int) (hm : l.length ≤ 1048576) : Ev (fun k => laws_markFlyPath.f k q s l f b 1) (1 + 7 * (l.length : Int), marks mk_markFlyStepS 1 7 l.length) := by
  unfold laws_markFlyPath.f
  exact Ev.bind (markFlyStepS_ev l hm) (Ev.val _)
/-! #### a flight, entry by entry -/
def askAt (asked : List Int) (i : Nat) (L H : Int) : Int := if i < asked.length then min (max L (rd asked (i : Int))) H else L
def goList (q s : Int) (l : List S88) (f b : Int) (asked : List Int) : Nat → Nat → List Int → Option (List Int)
  | 0, _, out => some out
  | d + 1, i, out => if (nextOf q s l f b out).2.2 = true then goList q s l f b asked d (i + 1) (out ++ [askAt asked i (nextOf q s l f b out).1 (nextOf q s l f b out).2.1]) else none
def goEnd (q s : Int) (l : List S88) (f b : Int) : Option (List Int) → List Int × Bool
  | none => ([], false)
  | some out => if lawful q s l f b out = true then (out, true) else ([], false)
def goOf (q s : Int) (l : List S88) (f b : Int) (beg asked : List Int) : List Int × Bool := goEnd q s l f b (goList q s l f b asked (l.length + 1 - beg.length) 0 beg)
theorem goEnd_length (q s : Int) (l : List S88) (f b : Int) (o : Option (List Int)) : (goEnd q s l f b o).1.length ≤ 41 := by
  cases o with
  | none => exact Nat.zero_le _
  | some out =>
    unfold goEnd
    by_cases h : lawful q s l f b out = true
    · simp only [if_pos h]
      unfold lawful at h
      rw [Bool.and_eq_true, Bool.and_eq_true] at h
      have h1 := (pathOk_facts h.1).2.1
      have h2 := of_decide_eq_true h.2.1
      omega
    · simp only [if_neg h]
      exact Nat.zero_le _
theorem goOf_bad {q s : Int} {l : List S88} {f b : Int} {beg asked : List Int} (h : ¬ (pathOk q s l f b = true ∧ beg.length ≤ l.length + 1)) : goOf q s l f b beg asked = ([], false) := by
  unfold goOf
  have bad : ∀ out, ¬ (pathOk q s l f b = true ∧ out.length ≤ l.length + 1) → goEnd q s l f b (some out) = ([], false) := by
    intro out ho
    unfold goEnd
    refine if_neg (fun hl => ho ?_)
    unfold lawful at hl
    rw [Bool.and_eq_true, Bool.and_eq_true] at hl
    exact ⟨hl.1, by have := of_decide_eq_true hl.2.1; omega⟩
  cases hd : l.length + 1 - beg.length with
  | zero => exact bad beg h
  | succ d =>
    simp only [goList]
    rw [if_neg]
    · rfl
    · unfold nextOf
      rw [if_neg (fun hh => h ⟨hh.1, by omega⟩)]
      decide
theorem next_range {q s : Int} {l : List S88} {f b : Int} {out : List Int} (hI : ∀ x ∈ out, I64 x) (h : (nextOf q s l f b out).2.2 = true) : 0 ≤ (nextOf q s l f b out).1 ∧ (nextOf q s l f b out).1 ≤ (nextOf q s l f b out).2.1 ∧ (nextOf q s l f b out).2.1 ≤ 10000 := by
  unfold nextOf at h ⊢
  by_cases hc : pathOk q s l f b = true ∧ out.length ≤ l.length
  · rw [if_pos hc] at h ⊢
    by_cases ho : spansOk idw (begA l f out) (begB l b out) q s (holdAt l) l.length = true
    · rw [if_pos ho]
      have h0 := (spansOk_iff _ _ _ _ _ _ _).1 ho out.length hc.2
      have h1 := fwdL_ge idw (begA l f out) q out.length
      have h2 := fwdH_le idw (begB l b out) s (holdAt l) out.length
      have h3 := spanL_ge idw (begA l f out) q s (holdAt l) l.length out.length hc.2
      have h4 := spanH_le idw (begB l b out) q s (holdAt l) l.length out.length hc.2
      have h5 := beg_range hc.1 out hI out.length
      dsimp only
      omega
    · rw [if_neg ho] at h
      cases h
  · rw [if_neg hc] at h
    cases h
theorem ask_I64 {q s : Int} {l : List S88} {f b : Int} {out asked : List Int} {i : Nat} (hI : ∀ x ∈ out, I64 x) (h : (nextOf q s l f b out).2.2 = true) : ∀ x ∈ out ++ [askAt asked i (nextOf q s l f b out).1 (nextOf q s l f b out).2.1], I64 x := by
  intro x hx
  rcases List.mem_append.1 hx with hx | hx
  · exact hI x hx
  · rw [List.mem_singleton.1 hx]
    have := next_range hI h
    unfold askAt I64
    split <;> omega
theorem go_loop_spec {q s : Int} {l : List S88} {f b : Int} (hl : l.length ≤ 40) (asked : List Int) (hn : asked.length ≤ 1048576) :
    ∀ (d i : Nat) (out : List Int), out.length + d = l.length + 1 → i + d ≤ 41 → (∀ x ∈ out, I64 x) → Ev (fun k => spec_FlyGo.l0 k asked out (i : Int) q s l f b) (goEnd q s l f b (goList q s l f b asked d i out)) := by
  intro d
  induction d with
  | zero =>
    intro i out ho hi hI
    refine Ev.succ ?_
    simp only [spec_FlyGo.l0, goList, goEnd]
    refine Ev.ite_neg (by omega) (Ev.bind (spec_lawful q s l f b out (by omega)) ?_)
    by_cases hw : lawful q s l f b out = true
    · exact Ev.ite_pos hw (Ev.cast (Ev.val _) (if_pos hw).symm)
    · exact Ev.ite_neg hw (Ev.cast (Ev.val _) (if_neg hw).symm)
  | succ d ih =>
    intro i out ho hi hI
    refine Ev.succ ?_
    simp only [spec_FlyGo.l0, goList]
    refine Ev.ite_pos (by omega) (Ev.bind (spec_next_law q s l f b out hI) ?_)
    by_cases hw : (nextOf q s l f b out).2.2 = true
    · rw [if_pos hw]
      refine Ev.ite_pos hw ?_
      have h := ih (i + 1) (out ++ [askAt asked i (nextOf q s l f b out).1 (nextOf q s l f b out).2.1]) (by rw [List.length_append, List.length_singleton]; omega) (by omega) (ask_I64 hI hw)
      rw [show (((i + 1 : Nat) : Int)) = (i : Int) + 1 by omega] at h
      rw [w64 (show -9223372036854775808 ≤ (i : Int) + 1 by omega) (by omega)]
      simp only [spec_max, spec_min, Option.bind_some]
      by_cases ha : i < asked.length
      · rw [show askAt asked i (nextOf q s l f b out).1 (nextOf q s l f b out).2.1 = min (max (nextOf q s l f b out).1 (rd asked (i : Int))) (nextOf q s l f b out).2.1 from if_pos ha] at h ⊢
        exact Ev.ite_pos (by omega) (Ev.ite_pos (by omega) (Ev.ite_pos (by omega) h))
      · rw [show askAt asked i (nextOf q s l f b out).1 (nextOf q s l f b out).2.1 = (nextOf q s l f b out).1 from if_neg ha] at h ⊢
        exact Ev.ite_neg (by omega) (Ev.ite_pos (by omega) h)
    · rw [if_neg hw]
      exact Ev.ite_neg hw (Ev.val _)
theorem go_loop_impl {q s : Int} {l : List S88} {f b : Int} (hl : l.length ≤ 40) (asked : List Int) (hn : asked.length ≤ 1048576) :
    ∀ (d i : Nat) (out : List Int), out.length + d = l.length + 1 → i + d ≤ 41 → (∀ x ∈ out, I64 x) → Ev (fun k => impl_FlyGo.l0 k asked out (i : Int) q s l f b) (goEnd q s l f b (goList q s l f b asked d i out)) := by
  intro d
  induction d with
  | zero =>
    intro i out ho hi hI
    refine Ev.succ ?_
    simp only [impl_FlyGo.l0, goList, goEnd]
    refine Ev.ite_neg (by omega) (Ev.bind (impl_lawful q s l f b out (by omega)) ?_)
    by_cases hw : lawful q s l f b out = true
    · exact Ev.ite_pos hw (Ev.cast (Ev.val _) (if_pos hw).symm)
    · exact Ev.ite_neg hw (Ev.cast (Ev.val _) (if_neg hw).symm)
  | succ d ih =>
    intro i out ho hi hI
    refine Ev.succ ?_
    simp only [impl_FlyGo.l0, goList]
    refine Ev.ite_pos (by omega) (Ev.bind (impl_next_law q s l f b out hI) ?_)
    by_cases hw : (nextOf q s l f b out).2.2 = true
    · rw [if_pos hw]
      refine Ev.ite_pos hw ?_
      have h := ih (i + 1) (out ++ [askAt asked i (nextOf q s l f b out).1 (nextOf q s l f b out).2.1]) (by rw [List.length_append, List.length_singleton]; omega) (by omega) (ask_I64 hI hw)
      rw [show (((i + 1 : Nat) : Int)) = (i : Int) + 1 by omega] at h
      rw [w64 (show -9223372036854775808 ≤ (i : Int) + 1 by omega) (by omega)]
      by_cases ha : i < asked.length
      · rw [show askAt asked i (nextOf q s l f b out).1 (nextOf q s l f b out).2.1 = mn (mx (rd asked (i : Int)) (nextOf q s l f b out).1) (nextOf q s l f b out).2.1 from by rw [mn_eq, mx_eq, Int.max_comm]; exact if_pos ha] at h ⊢
        exact Ev.ite_pos (by omega) (Ev.ite_pos (by omega) (Ev.ite_pos (by omega) h))
      · rw [show askAt asked i (nextOf q s l f b out).1 (nextOf q s l f b out).2.1 = (nextOf q s l f b out).1 from if_neg ha] at h ⊢
        exact Ev.ite_neg (by omega) (Ev.ite_pos (by omega) h)
    · rw [if_neg hw]
      exact Ev.ite_neg hw (Ev.val _)
theorem go_spec (q s : Int) (l : List S88) (f b : Int) (beg asked : List Int) (hb : beg.length ≤ 1048576) (hn : asked.length ≤ 1048576) (hI : ∀ x ∈ beg, I64 x) (hl : l.length ≤ 1048576) : Ev (fun k => spec_FlyGo.f k q s l f b beg asked) (goOf q s l f b beg asked) := by
  unfold spec_FlyGo.f
  simp only [Option.bind_some, List.nil_append]
  refine Ev.ite_pos (by simp only [List.length_nil]; omega) (Ev.bind (spec_pathOk q s l f b) ?_)
  by_cases h : pathOk q s l f b = true
  · refine Ev.ite_pos h ?_
    have hf := pathOk_facts h
    rw [w64 (show -9223372036854775808 ≤ (l.length : Int) + 1 by omega) (by omega)]
    refine Ev.succ ?_
    simp only [spec_FlyGo.j0]
    by_cases hc : beg.length ≤ l.length + 1
    · refine Ev.ite_neg (by simp only [decide_eq_true_eq]; omega) ?_
      exact go_loop_spec hf.2.1.2 asked hn (l.length + 1 - beg.length) 0 beg (by omega) (by omega) hI
    · refine Ev.ite_pos (by simp only [decide_eq_true_eq]; omega) (Ev.cast (Ev.val _) ?_)
      exact (goOf_bad (fun hh => hc hh.2)).symm
  · refine Ev.ite_neg h (Ev.succ ?_)
    simp only [spec_FlyGo.j0]
    exact Ev.ite_pos trivial (Ev.cast (Ev.val _) (goOf_bad (fun hh => h hh.1)).symm)
theorem go_impl (q s : Int) (l : List S88) (f b : Int) (beg asked : List Int) (hb : beg.length ≤ 1048576) (hn : asked.length ≤ 1048576) (hI : ∀ x ∈ beg, I64 x) (hl : l.length ≤ 1048576) : Ev (fun k => impl_FlyGo.f k q s l f b beg asked) (goOf q s l f b beg asked) := by
  unfold impl_FlyGo.f
  refine Ev.ite_pos (by simp only [List.length_nil]; omega) ?_
  rw [List.nil_append]
  by_cases h : pathOk q s l f b = true ∧ beg.length ≤ l.length + 1
  · exact go_loop_impl (pathOk_facts h.1).2.1.2 asked hn (l.length + 1 - beg.length) 0 beg (by omega) (by have := (pathOk_facts h.1).2.1.2; omega) hI
  · refine Ev.cast ?_ (goOf_bad h).symm
    refine Ev.succ ?_
    simp only [impl_FlyGo.l0]
    by_cases hc : beg.length ≤ l.length
    · refine Ev.ite_pos (by omega) (Ev.bind (impl_next_law q s l f b beg hI) ?_)
      have e : nextOf q s l f b beg = (0, 0, false) := if_neg (fun hh => h ⟨hh.1, by omega⟩)
      rw [e]
      exact Ev.ite_neg (by decide) (Ev.val _)
    · refine Ev.ite_neg (by omega) (Ev.bind (impl_lawful q s l f b beg (by omega)) ?_)
      have e : ¬ lawful q s l f b beg = true := by
        intro hw
        unfold lawful at hw
        rw [Bool.and_eq_true, Bool.and_eq_true] at hw
        have := of_decide_eq_true hw.2.1
        exact h ⟨hw.1, by omega⟩
      exact Ev.ite_neg e (Ev.val _)
theorem markInt_from (x0 : List Int) (m : Int) (h0 : 0 ≤ m) (h1 : m ≤ 100000000) (hm : x0.length ≤ 1048576) : Ev (fun k => laws_markIntS.f k x0 m) (m + 1 * (x0.length : Int), marks mk_markIntS m 1 x0.length) := by
  unfold laws_markIntS.f
  have h := mark_loop (F := laws_markIntS.l0) (mk := mk_markIntS) (m := m) (c := 1) (by omega) h0 x0.length (by omega) (by omega) (fun x0 q i h0 h1 h2 h3 h4 k => (by
    simp only [laws_markIntS.l0, if_pos h0, if_pos h1]
    rw [w64 (by omega) h3, w64 (by omega) h4]
    rfl)) (fun x0 q i h k => (by
    simp only [laws_markIntS.l0]
    rw [if_neg h])) x0.length 0 x0 rfl (by omega) (by omega) (fun j hj => by omega)
  rw [show m + 1 * (((0 : Nat)) : Int) = m by omega] at h
  exact h
theorem FnExactFlyGo : Said := by
  intro q s l f b beg asked ⟨_, _, ⟨hm, _⟩, _, _⟩ ⟨_, hI⟩ _
  refine Ev.rounds (r := true) ?_
  unfold laws_FnExactFlyGo.f
  by_cases hb0 : (beg.length : Int) > 1048576
  · exact Ev.ite_pos hb0 (Ev.val _)
  · refine Ev.ite_neg hb0 ?_
    have hb : beg.length ≤ 1048576 := by omega
    by_cases hn0 : (asked.length : Int) > 1048576
    · exact Ev.ite_pos hn0 (Ev.val _)
    · refine Ev.ite_neg hn0 ?_
      have hn : asked.length ≤ 1048576 := by omega
      rw [szFlyPath_eq q s l f b hm 1048576 (by omega) (by omega)]
      simp only [Option.bind_some]
      by_cases h : (l.length : Int) ≤ 1048576
      · have hl : l.length ≤ 1048576 := by omega
        have hl' : (l.map conv_toFlyStepS).length ≤ 1048576 := by rw [List.length_map]; exact hl
        have hg : (goOf q s (l.map conv_toFlyStepS) f b beg asked).1.length ≤ 41 := goEnd_length _ _ _ _ _ _
        have hg' : (goOf q s (l.map conv_toFlyStepS) f b beg asked).1.length ≤ 1048576 := by omega
        rw [if_pos h]
        refine Ev.ite_neg (by omega) (Ev.bind (toFlyPath_ev q s l f b hl) (Ev.bind (toIntS_ev beg hb) (Ev.bind (toIntS_ev asked hn) (Ev.bind (go_spec q s (l.map conv_toFlyStepS) f b beg asked hb hn hI hl') (Ev.bind (toFlyPath_ev q s l f b hl) (Ev.bind (toIntS_ev beg hb) (Ev.bind (toIntS_ev asked hn) (Ev.bind (go_impl q s (l.map conv_toFlyStepS) f b beg asked hb hn hI hl') (Ev.bind (eqIntS_ev _ hg') (Ev.ite_pos rfl (Ev.succ ?_)))))))))))
        simp only [laws_FnExactFlyGo.j0]
        refine Ev.ite_neg (by simp) (Ev.bind (toFlyPath_ev q s l f b hl) (Ev.bind (eqFlyPath_ev _ _ _ _ _ hl') (Ev.ite_pos rfl (Ev.bind (toIntS_ev beg hb) (Ev.bind (eqIntS_ev beg hb) (Ev.ite_pos rfl (Ev.bind (toIntS_ev asked hn) (Ev.bind (eqIntS_ev asked hn) (Ev.ite_pos rfl ?_)))))))))
        refine Ev.bind (markFlyPath_ev _ _ _ _ _ hl') (Ev.bind (markInt_from beg _ (by omega) (by omega) hb) (Ev.bind (markInt_from asked _ (by omega) (by omega) hn) ?_))
        refine Ev.ite_neg (by omega) (Ev.bind (eqIntS_ev _ hg') (Ev.ite_pos rfl (Ev.succ ?_)))
        simp only [laws_FnExactFlyGo.j1]
        refine Ev.ite_neg (by simp) (Ev.bind (markIntS_ev _ hg') (Ev.bind (heldIntS_ev _ hg') (Ev.ite_neg (by omega) (Ev.ite_pos rfl (Ev.bind (toFlyPath_ev q s l f b hl) (Ev.bind (toIntS_ev beg hb) (Ev.bind (toIntS_ev asked hn) (Ev.bind (go_impl q s (l.map conv_toFlyStepS) f b beg asked hb hn hI hl') (Ev.bind (eqIntS_ev _ hg') (Ev.ite_pos rfl (Ev.succ ?_)))))))))))
        simp only [laws_FnExactFlyGo.j2]
        exact Ev.ite_neg (by simp) (Ev.bind (heldIntS_ev _ hg') (Ev.ite_neg (by omega) (Ev.ite_pos rfl (Ev.val _))))
      · rw [if_neg h]
        exact Ev.ite_pos (by omega) (Ev.val _)
end Go.Proofs.Ytidenmcoilmbcaa.Pure
