/-
  The law FnExactPlanLevels over numbers and lists: both lists of levels are the same, and nothing else is reached by marking them.
-/
import Derived.Test.YtahfbpmaeijgaaaStdFnExactPlanLevels
namespace Go.Proofs.Ytahfbpmaeijgaaa.Pure
open Go.RowKit Go.Proofs.Ytahfbpmaeijgaaa.PFnExactPlanLevels Go.Proofs.YtahfbpmaeijgaaaW.PrintWords Go.Proofs.Ytahfbpmaeijgaaa.Kit Go.Proofs.Ytahfbpmaeijgaaa.StdFnExactPlanLevels
set_option linter.unusedSimpArgs false
set_option linter.unusedVariables false
def levelAt (n level : Int) (j : Nat) : Int := mn (mn level (j : Int)) (n - 1 - (j : Int))
theorem mn_eq (a b : Int) : mn a b = if a ≤ b then a else b := by unfold mn; split <;> split <;> omega
theorem levels_loop {F : Nat → List Int → Int → Option (List Int)} (n level : Int) (h0 : 0 ≤ n) (hn : n ≤ 40)
    (hs : ∀ (xs : List Int) (i : Nat), (i : Int) < n → xs.length < 17592186044416 → ∀ k, F (k + 1) xs i = F k (xs ++ [levelAt n level i]) ((i : Int) + 1))
    (he : ∀ (xs : List Int) (i : Int), ¬ i < n → ∀ k, F (k + 1) xs i = some xs) :
    ∀ (d i : Nat), n - (i : Int) = d → Ev (fun k => F k ((List.range i).map (levelAt n level)) i) ((List.range n.toNat).map (levelAt n level))
  | 0, i, h => by
    refine Ev.step (he _ _ (by omega)) (Ev.cast (Ev.val _) ?_)
    rw [show i = n.toNat by omega]
  | d + 1, i, h => by
    refine Ev.step (hs _ i (by omega) (by simp; omega)) ?_
    have := levels_loop n level h0 hn hs he d (i + 1) (by omega)
    rw [List.range_succ, List.map_append, List.map_singleton] at this
    exact this
def levels (n level : Int) : List Int := if 1 ≤ n ∧ n ≤ 40 ∧ 1 ≤ level ∧ level ≤ 6 then (List.range n.toNat).map (levelAt n level) else []
theorem levels_length (n level : Int) : (levels n level).length ≤ 40 := by
  unfold levels
  split
  · simp; omega
  · simp
theorem levels_spec (n level : Int) : Ev (fun k => spec_PlanLevels.f k n level) (levels n level) := by
  unfold spec_PlanLevels.f spec_l11In.f levels
  simp only [Option.bind_some]
  have bad : Ev (fun k => spec_PlanLevels.j0 k n level ([] : List Int) true) [] := Ev.step (fun k => (by simp only [spec_PlanLevels.j0]; exact if_pos trivial)) (Ev.val _)
  by_cases h1 : n ≥ 1
  · simp only [if_pos h1, Option.bind_some]
    by_cases h2 : n ≤ 40
    · simp only [decide_eq_true h2, if_true]
      by_cases h3 : level ≥ 1
      · simp only [if_pos h3, Option.bind_some]
        by_cases h4 : level ≤ 6
        · simp only [decide_eq_true h4, Bool.not_true]
          rw [if_pos ⟨h1, h2, h3, h4⟩]
          refine Ev.succ ?_
          simp only [spec_PlanLevels.j0]
          refine Ev.ite_neg (by decide) ?_
          exact levels_loop (F := fun k xs i => spec_PlanLevels.l0 k n level xs i) n level (by omega) h2 (fun xs i hi hx k => by
            simp only [spec_PlanLevels.l0, spec_l17Min.f]
            rw [if_pos hi, w64 (show -9223372036854775808 ≤ n - 1 by omega) (by omega), w64 (by omega) (by omega), w64 (by omega) (by omega)]
            have e : levelAt n level i = if level < (if (i : Int) < n - 1 - i then (i : Int) else n - 1 - i) then level else (if (i : Int) < n - 1 - i then (i : Int) else n - 1 - i) := by
              unfold levelAt
              rw [mn_eq, mn_eq]
              repeat' split
              all_goals omega
            rw [e]
            by_cases c1 : (i : Int) < n - 1 - i
            · rw [if_pos c1, if_pos c1]
              simp only [Option.bind_some]
              by_cases c2 : level < (i : Int)
              · rw [if_pos c2, if_pos c2]; simp only [Option.bind_some]; rw [if_pos hx]
              · rw [if_neg c2, if_neg c2]; simp only [Option.bind_some]; rw [if_pos hx]
            · rw [if_neg c1, if_neg c1]
              simp only [Option.bind_some]
              by_cases c2 : level < n - 1 - (i : Int)
              · rw [if_pos c2, if_pos c2]; simp only [Option.bind_some]; rw [if_pos hx]
              · rw [if_neg c2, if_neg c2]; simp only [Option.bind_some]; rw [if_pos hx]) (fun xs i hi k => by
            simp only [spec_PlanLevels.l0]
            rw [if_neg hi]) n.toNat 0 (by omega)
        · simp only [decide_eq_false h4, Bool.not_false]
          rw [if_neg (fun h => h4 h.2.2.2)]
          exact bad
      · simp only [if_neg h3, Option.bind_some, Bool.not_false]
        rw [if_neg (fun h => h3 h.2.2.1)]
        exact bad
    · simp only [decide_eq_false h2, if_neg (show ¬ (false = true) by decide)]
      rw [if_neg (fun h => h2 h.2.1)]
      exact bad
  · simp only [if_neg h1, Option.bind_some, if_neg (show ¬ (false = true) by decide)]
    rw [if_neg (fun h => h1 h.1)]
    exact bad
theorem levels_impl (n level : Int) : Ev (fun k => impl_PlanLevels.f k n level) (levels n level) := by
  unfold impl_PlanLevels.f impl_within.f levels
  have bad : Ev (fun k => impl_PlanLevels.j0 k n level true) [] := Ev.step (fun k => (by simp only [impl_PlanLevels.j0]; exact if_pos trivial)) (Ev.val _)
  by_cases h1 : n ≥ 1
  · simp only [if_pos h1, Option.bind_some]
    by_cases h2 : n ≤ 40
    · simp only [decide_eq_true h2, if_true]
      by_cases h3 : level ≥ 1
      · simp only [if_pos h3, Option.bind_some]
        by_cases h4 : level ≤ 6
        · simp only [decide_eq_true h4, Bool.not_true]
          rw [if_pos ⟨h1, h2, h3, h4⟩]
          refine Ev.succ ?_
          simp only [impl_PlanLevels.j0]
          refine Ev.ite_neg (by decide) ?_
          exact levels_loop (F := fun k xs i => impl_PlanLevels.l0 k n level xs i) n level (by omega) h2 (fun xs i hi hx k => by
            simp only [impl_PlanLevels.l0]
            rw [if_pos hi, if_pos hx, w64 (show -9223372036854775808 ≤ n - 1 by omega) (by omega), w64 (by omega) (by omega), w64 (by omega) (by omega)]
            rfl) (fun xs i hi k => by
            simp only [impl_PlanLevels.l0]
            rw [if_neg hi]) n.toNat 0 (by omega)
        · simp only [decide_eq_false h4, Bool.not_false]
          rw [if_neg (fun h => h4 h.2.2.2)]
          exact bad
      · simp only [if_neg h3, Option.bind_some, Bool.not_false]
        rw [if_neg (fun h => h3 h.2.2.1)]
        exact bad
    · simp only [decide_eq_false h2, if_neg (show ¬ (false = true) by decide)]
      rw [if_neg (fun h => h2 h.2.1)]
      exact bad
  · simp only [if_neg h1, Option.bind_some, if_neg (show ¬ (false = true) by decide)]
    rw [if_neg (fun h => h1 h.1)]
    exact bad
theorem FnExactPlanLevels : laws_FnExactPlanLevels.Pure := by
  intro n level hw hw1
  refine Ev.rounds (r := true) ?_
  unfold laws_FnExactPlanLevels.f
  have hl := levels_length n level
  refine Ev.bind (levels_spec n level) (Ev.bind (levels_impl n level) (Ev.bind (eqIntS_ev _ (by omega)) (Ev.ite_pos rfl (Ev.bind (markIntS_ev _ (by omega)) (Ev.bind (heldIntS_ev _ (by omega)) (Ev.ite_neg (by omega) (Ev.ite_pos rfl ?_)))))))
  exact Ev.bind (levels_impl n level) (Ev.bind (eqIntS_ev _ (by omega)) (Ev.ite_pos rfl (Ev.bind (heldIntS_ev _ (by omega)) (Ev.ite_neg (by omega) (Ev.ite_pos rfl (Ev.val _))))))
end Go.Proofs.Ytahfbpmaeijgaaa.Pure
