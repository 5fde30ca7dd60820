/-
  The law FnExactFlyWhere over numbers and lists: both searches tell the first step that a tick is in.
-/
import Derived.Test.YtahfbpmaeijgaaaStdFnExactFlyWhere
import Derived.Test.YtahfbpmaeijgaaaSayFnExactFlyWhere
namespace Go.Proofs.Ytahfbpmaeijgaaa.Pure
open Go.RowKit Go.Proofs.Ytahfbpmaeijgaaa.PFnExactFlyWhere Go.Proofs.YtahfbpmaeijgaaaW.PrintWords Go.Proofs.Ytahfbpmaeijgaaa.Kit Go.Proofs.Ytahfbpmaeijgaaa.StdFnExactFlyWhere
set_option linter.unusedSimpArgs false
set_option linter.unusedVariables false
def inStep (l : List Int) (t : Int) (j : Nat) : Bool := decide (rd l (j : Int) ≤ t ∧ t < rd l ((j : Int) + 1))
def whereAt (l : List Int) (t : Int) : Int × Bool := findN (inStep l t) (fun j => ((j : Int), true)) (0, false) (l.length - 1) 0
theorem where_spec (l : List Int) (t : Int) (hl : l.length ≤ 1048576) : Ev (fun k => spec_FlyWhere.f k l t) (whereAt l t) := by
  have key := find_loop (F := fun k i => spec_FlyWhere.l0 k l t (i + 1)) (l.length - 1) (inStep l t) (fun j => ((j : Int), true)) (0, false) ?_ ?_ ?_ (l.length - 1) 0 (by omega)
  · exact key
  · intro i hi hp
    have e : wrap64 ((i : Int) + 1 - 1) = i := by unfold wrap64; omega
    have hp := of_decide_eq_true hp
    refine Ev.step (fun k => ?_) (Ev.val _)
    simp only [spec_FlyWhere.l0, e, if_pos (show (i : Int) + 1 < (l.length : Int) by omega), if_pos (show (0 : Int) ≤ i by omega), if_pos (show (i : Int) < (l.length : Int) by omega), if_pos hp.1, if_pos (show (0 : Int) ≤ (i : Int) + 1 by omega), if_pos hp.2]
  · intro i hi hp r' hr
    have e : wrap64 ((i : Int) + 1 - 1) = i := by unfold wrap64; omega
    have e2 : wrap64 ((i : Int) + 1 + 1) = (i : Int) + 1 + 1 := by unfold wrap64; omega
    have hp := of_decide_eq_false hp
    refine Ev.step (fun k => ?_) hr
    simp only [spec_FlyWhere.l0, e, e2, if_pos (show (i : Int) + 1 < (l.length : Int) by omega), if_pos (show (0 : Int) ≤ i by omega), if_pos (show (i : Int) < (l.length : Int) by omega), if_pos (show (0 : Int) ≤ (i : Int) + 1 by omega)]
    by_cases h1 : rd l (i : Int) ≤ t
    · rw [if_pos h1, if_neg (fun h2 => hp ⟨h1, h2⟩)]
    · rw [if_neg h1]
  · refine Ev.step (fun k => ?_) (Ev.val _)
    simp only [spec_FlyWhere.l0]
    rw [if_neg (by omega)]
theorem where_impl (l : List Int) (t : Int) (hl : l.length ≤ 1048576) : Ev (fun k => impl_FlyWhere.f k l t) (whereAt l t) := by
  have key := find_loop (F := fun k i => impl_FlyWhere.l0 k l t i) (l.length - 1) (inStep l t) (fun j => ((j : Int), true)) (0, false) ?_ ?_ ?_ (l.length - 1) 0 (by omega)
  · exact key
  · intro i hi hp
    have e : wrap64 ((i : Int) + 1) = (i : Int) + 1 := by unfold wrap64; omega
    have hp := of_decide_eq_true hp
    refine Ev.step (fun k => ?_) (Ev.val _)
    simp only [impl_FlyWhere.l0, e, if_pos (show (i : Int) + 1 < (l.length : Int) by omega), if_pos (show (0 : Int) ≤ i by omega), if_pos (show (i : Int) < (l.length : Int) by omega), if_pos hp.1, if_pos (show (0 : Int) ≤ (i : Int) + 1 by omega), if_pos hp.2]
  · intro i hi hp r' hr
    have e : wrap64 ((i : Int) + 1) = (i : Int) + 1 := by unfold wrap64; omega
    have hp := of_decide_eq_false hp
    refine Ev.step (fun k => ?_) hr
    simp only [impl_FlyWhere.l0, e, if_pos (show (i : Int) + 1 < (l.length : Int) by omega), if_pos (show (0 : Int) ≤ i by omega), if_pos (show (i : Int) < (l.length : Int) by omega), if_pos (show (0 : Int) ≤ (i : Int) + 1 by omega)]
    by_cases h1 : rd l (i : Int) ≤ t
    · rw [if_pos h1, if_neg (fun h2 => hp ⟨h1, h2⟩)]
    · rw [if_neg h1]
  · refine Ev.step (fun k => ?_) (Ev.val _)
    simp only [impl_FlyWhere.l0]
    rw [w64 (by omega) (by omega), if_neg (by omega)]
theorem FnExactFlyWhere : Go.Proofs.Ytahfbpmaeijgaaa.SayFnExactFlyWhere.Said := by
  intro l t ⟨hm, _⟩ _
  refine Ev.rounds (r := true) ?_
  unfold laws_FnExactFlyWhere.f
  by_cases h : (l.length : Int) > 1048576
  · exact Ev.ite_pos h (Ev.val _)
  · have hl : l.length ≤ 1048576 := by omega
    refine Ev.ite_neg h (Ev.bind (toIntS_ev l hl) (Ev.bind (where_spec l t hl) (Ev.bind (toIntS_ev l hl) (Ev.bind (where_impl l t hl) (Ev.ite_pos rfl ?_)))))
    rw [bne_self_eq_false]
    refine Ev.succ ?_
    simp only [laws_FnExactFlyWhere.j0]
    exact (Ev.ite_neg (by decide) (Ev.bind (toIntS_ev l hl) (Ev.bind (eqIntS_ev l hl) (Ev.ite_pos rfl (Ev.val _)))))
end Go.Proofs.Ytahfbpmaeijgaaa.Pure
