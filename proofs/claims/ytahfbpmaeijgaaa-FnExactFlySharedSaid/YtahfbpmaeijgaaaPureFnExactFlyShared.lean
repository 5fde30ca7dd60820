/-
  The law FnExactFlyShared over numbers and lists: both tell the same number of shared steps of two paths.
-/
import Derived.Test.YtahfbpmaeijgaaaSayFnExactFlyShared
import Derived.Test.YtahfbpmaeijgaaaStdFnExactFlyShared
namespace Go.Proofs.Ytahfbpmaeijgaaa.Pure
open Go.RowKit Go.Proofs.Ytahfbpmaeijgaaa.QFnExactFlyShared Go.Proofs.YtahfbpmaeijgaaaW.PrintWords Go.Proofs.Ytahfbpmaeijgaaa.Kit Go.Proofs.Ytahfbpmaeijgaaa.StdFnExactFlyShared Go.Proofs.Ytahfbpmaeijgaaa.SayFnExactFlyShared
set_option linter.unusedSimpArgs false
set_option linter.unusedVariables false
/-! #### the law's own helpers on paths -/
theorem szFlyPath_eq (q s : Int) (l : List S129) (f b : Int) (hm : l.length ≤ 9223372036854775807) (a : Int) (h0 : 0 ≤ a) (ha : a ≤ 1048576) : laws_szFlyPath.f q s l f b a = some (if (l.length : Int) ≤ a then a - l.length else -1) := by
  unfold laws_szFlyPath.f
  rw [szFlyStepS_eq l hm a h0 ha]
  simp only [Option.bind_some]
  by_cases h : (l.length : Int) ≤ a
  · rw [if_pos h, if_neg (by omega)]
  · rw [if_neg h, if_pos (by omega)]
theorem toFlyPath_ev (q s : Int) (l : List S129) (f b : Int) (hm : l.length ≤ 1048576) : Ev (fun k => laws_toFlyPath.f k q s l f b) (q, s, l.map conv_toFlyStepS, f, b) := by
  unfold laws_toFlyPath.f laws_toFlyKind.f
  simp only [Option.bind_some]
  exact Ev.bind (toFlyStepS_ev l hm) (Ev.val _)
theorem eqFlyPath_ev (q s : Int) (l : List S109) (f b : Int) (hm : l.length ≤ 1048576) : Ev (fun k => laws_eqFlyPath.f k q s l f b q s l f b) true := by
  unfold laws_eqFlyPath.f laws_eqFlyKind.f
  simp only [if_true, Option.bind_some]
  exact Ev.bind (eqFlyStepS_ev l hm) (Ev.ite_pos rfl (Ev.val _))
def eqAt (l l' : List S109) (i : Int) : Bool := (((rd_T109 l i).f0) == ((rd_T109 l' i).f0) && (((rd_T109 l i).f1) == ((rd_T109 l' i).f1) && (((rd_T109 l i).f2) == ((rd_T109 l' i).f2) && (((rd_T109 l i).f3) == ((rd_T109 l' i).f3) && (((rd_T109 l i).f4) == ((rd_T109 l' i).f4) && (((rd_T109 l i).f5) == ((rd_T109 l' i).f5) && (((rd_T109 l i).f6) == ((rd_T109 l' i).f6))))))))
def sharedN (P : Nat → Bool) (m : Nat) : Int := findN (fun j => !P j) (fun j => (j : Int)) (m : Int) m 0
theorem spec_shared (q s : Int) (l : List S109) (f b q' s' : Int) (l' : List S109) (f' b' : Int) (hl : l.length ≤ 1048576) (hl' : l'.length ≤ 1048576) :
    Ev (fun k => spec_FlyShared.f k q s l f b q' s' l' f' b') (sharedN (fun j => eqAt l l' (j : Int) && (q == q' && (s == s'))) (min l.length l'.length)) := by
  have round : ∀ i : Nat, i < min l.length l'.length → ∀ k, spec_FlyShared.l0 (k + 1) (i : Int) q s l f b q' s' l' f' b' = if (eqAt l l' (i : Int) && (q == q' && (s == s'))) = true then spec_FlyShared.l0 k ((i : Int) + 1) q s l f b q' s' l' f' b' else some (i : Int) := by
    intro i hi k
    have e : eqAt l l' (i : Int) = _ := rfl
    unfold eqAt at e
    simp only [spec_FlyShared.l0]
    rw [if_pos (show (i : Int) < (l.length : Int) by omega), if_pos (show (i : Int) < (l'.length : Int) by omega), if_pos (show (0 : Int) ≤ i by omega), w64 (show -9223372036854775808 ≤ (i : Int) + 1 by omega) (by omega)]
    show (if eqAt l l' (i : Int) = true then (if (q == q' && (s == s')) = true then spec_FlyShared.l0 k ((i : Int) + 1) q s l f b q' s' l' f' b' else some (i : Int)) else some (i : Int)) = _
    cases eqAt l l' (i : Int) <;> cases (q == q' && (s == s')) <;> rfl
  unfold spec_FlyShared.f sharedN
  refine find_loop (F := fun k i => spec_FlyShared.l0 k i q s l f b q' s' l' f' b') (min l.length l'.length) (fun j => !(eqAt l l' (j : Int) && (q == q' && (s == s')))) (fun j => (j : Int)) _ ?_ ?_ ?_ (min l.length l'.length) 0 (by omega)
  · intro i hi hp
    have hp' : (!(eqAt l l' (i : Int) && (q == q' && (s == s')))) = true := hp
    exact Ev.step (round i hi) (Ev.ite_neg (fun hc => by rw [hc] at hp'; cases hp') (Ev.val _))
  · intro i hi hp r' hr
    have hp' : (!(eqAt l l' (i : Int) && (q == q' && (s == s')))) = false := hp
    exact Ev.step (round i hi) (Ev.ite_pos (by revert hp'; cases (eqAt l l' (i : Int) && (q == q' && (s == s'))) <;> simp) hr)
  · refine Ev.step (fun k => ?_) (Ev.val _)
    simp only [spec_FlyShared.l0]
    by_cases h : l.length ≤ l'.length
    · rw [if_neg (by omega)]
    · rw [if_pos (by omega), if_neg (by omega)]
theorem impl_shared (q s : Int) (l : List S109) (f b q' s' : Int) (l' : List S109) (f' b' : Int) (hl : l.length ≤ 1048576) (hl' : l'.length ≤ 1048576) :
    Ev (fun k => impl_FlyShared.f k q s l f b q' s' l' f' b') (sharedN (fun j => eqAt l l' (j : Int) && (q == q' && (s == s'))) (min l.length l'.length)) := by
  have round : ∀ i : Nat, i < min l.length l'.length → ∀ k, impl_FlyShared.l0 (k + 1) (i : Int) q s l f b q' s' l' f' b' = if eqAt l l' (i : Int) = true then impl_FlyShared.l0 k ((i : Int) + 1) q s l f b q' s' l' f' b' else some (i : Int) := by
    intro i hi k
    simp only [impl_FlyShared.l0]
    rw [if_pos (show (i : Int) < (l.length : Int) by omega), if_pos (show (i : Int) < (l'.length : Int) by omega), if_pos (show (0 : Int) ≤ i by omega), w64 (show -9223372036854775808 ≤ (i : Int) + 1 by omega) (by omega)]
    rfl
  unfold impl_FlyShared.f sharedN
  by_cases hk : (q == q' && (s == s')) = true
  · refine Ev.ite_pos hk ?_
    simp only [hk, Bool.and_true]
    refine find_loop (F := fun k i => impl_FlyShared.l0 k i q s l f b q' s' l' f' b') (min l.length l'.length) (fun j => !eqAt l l' (j : Int)) (fun j => (j : Int)) _ ?_ ?_ ?_ (min l.length l'.length) 0 (by omega)
    · intro i hi hp
      exact Ev.step (round i hi) (Ev.ite_neg (by simpa using hp) (Ev.val _))
    · intro i hi hp r' hr
      exact Ev.step (round i hi) (Ev.ite_pos (by simpa using hp) hr)
    · refine Ev.step (fun k => ?_) (Ev.val _)
      simp only [impl_FlyShared.l0]
      by_cases h : l.length ≤ l'.length
      · rw [if_neg (by omega)]
      · rw [if_pos (by omega), if_neg (by omega)]
  · refine Ev.ite_neg hk (Ev.cast (Ev.val _) ?_)
    have hk := Bool.eq_false_iff.2 hk
    simp only [hk, Bool.and_false, Bool.not_false]
    cases min l.length l'.length with
    | zero => rfl
    | succ m => rfl
theorem FnExactFlyShared : Said := by
  intro q s l f b q' s' l' f' b' ⟨_, _, ⟨hm, _⟩, _, _⟩ ⟨_, _, ⟨hm', _⟩, _, _⟩
  refine Ev.rounds (r := true) ?_
  unfold laws_FnExactFlyShared.f
  rw [szFlyPath_eq q s l f b hm 1048576 (by omega) (by omega)]
  simp only [Option.bind_some]
  by_cases h : (l.length : Int) ≤ 1048576
  · have hl : l.length ≤ 1048576 := by omega
    have hl1 : (l.map conv_toFlyStepS).length ≤ 1048576 := by rw [List.length_map]; exact hl
    rw [if_pos h]
    refine Ev.ite_neg (by omega) ?_
    rw [szFlyPath_eq q' s' l' f' b' hm' _ (by omega) (by omega)]
    simp only [Option.bind_some]
    by_cases h' : (l'.length : Int) ≤ 1048576 - (l.length : Int)
    · have hl' : l'.length ≤ 1048576 := by omega
      have hl1' : (l'.map conv_toFlyStepS).length ≤ 1048576 := by rw [List.length_map]; exact hl'
      rw [if_pos h']
      refine Ev.ite_neg (by omega) (Ev.bind (toFlyPath_ev q s l f b hl) (Ev.bind (toFlyPath_ev q' s' l' f' b' hl') (Ev.bind (spec_shared q s _ f b q' s' _ f' b' hl1 hl1') (Ev.bind (toFlyPath_ev q s l f b hl) (Ev.bind (toFlyPath_ev q' s' l' f' b' hl') (Ev.bind (impl_shared q s _ f b q' s' _ f' b' hl1 hl1') (Ev.ite_pos rfl ?_)))))))
      exact Ev.bind (toFlyPath_ev q s l f b hl) (Ev.bind (eqFlyPath_ev _ _ _ _ _ hl1) (Ev.ite_pos rfl (Ev.bind (toFlyPath_ev q' s' l' f' b' hl') (Ev.bind (eqFlyPath_ev _ _ _ _ _ hl1') (Ev.ite_pos rfl (Ev.val _))))))
    · rw [if_neg h']
      exact Ev.ite_pos (by omega) (Ev.val _)
  · rw [if_neg h]
    exact Ev.ite_pos (by omega) (Ev.val _)
end Go.Proofs.Ytahfbpmaeijgaaa.Pure
