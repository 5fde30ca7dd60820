/-
  What the helpers of the law FnExactPlanLevels come to.
-/
import Derived.Test.YtahfbpmaeijgaaaPFnExactPlanLevelsx0
import Derived.Test.YtahfbpmaeijgaaaPFnExactPlanLevelsx1
import Derived.Test.YtahfbpmaeijgaaaPFnExactPlanLevelsx2
import Derived.Test.YtahfbpmaeijgaaaKit
namespace Go.Proofs.Ytahfbpmaeijgaaa.StdFnExactPlanLevels
open Go.RowKit Go.Proofs.Ytahfbpmaeijgaaa.PFnExactPlanLevels Go.Proofs.YtahfbpmaeijgaaaW.PrintWords Go.Proofs.Ytahfbpmaeijgaaa.Kit
set_option linter.unusedSimpArgs false
set_option linter.unusedVariables false
theorem eqIntS_ev (x0 : List Int) (hm : x0.length ≤ 1048576) : Ev (fun k => laws_eqIntS.f k x0 x0) true := by
  unfold laws_eqIntS.f
  refine Ev.ite_pos rfl ?_
  refine eq_loop (F := laws_eqIntS.l0) x0 (by omega) (fun i h0 h1 h3 k => ?_) (fun i h k => ?_) x0.length 0 (by omega) (by omega)
  · simp only [laws_eqIntS.l0, if_pos h0, if_pos h1, if_true, if_false, Option.bind_some, bne_self_eq_false, Bool.false_eq_true]
    rw [w64 (by omega) h3]
  · simp only [laws_eqIntS.l0]
    rw [if_neg h]
def mk_markIntS (q : Int) : Int := q
theorem markIntS_ev (x0 : List Int) (hm : x0.length ≤ 1048576) : Ev (fun k => laws_markIntS.f k x0 1) (1 + 1 * (x0.length : Int), marks mk_markIntS 1 1 x0.length) := by
  unfold laws_markIntS.f
  refine Ev.cast (mark_loop (F := laws_markIntS.l0) (mk := mk_markIntS) (m := 1) (c := 1) (by omega) (by omega) x0.length (by omega) (by omega) (fun x0 q i h0 h1 h2 h3 h4 k => ?_) (fun x0 q i h k => ?_) x0.length 0 x0 rfl (by omega) (by omega) (fun j hj => by omega)) rfl
  · simp only [laws_markIntS.l0, if_pos h0, if_pos h1]
    rw [w64 (by omega) h3, w64 (by omega) h4]
    rfl
  · simp only [laws_markIntS.l0]
    rw [if_neg h]
theorem heldIntS_ev (n : Nat) (hm : n ≤ 1048576) : Ev (fun k => laws_heldIntS.f k (marks mk_markIntS 1 1 n) 1) (1 + 1 * (n : Int)) := by
  unfold laws_heldIntS.f
  refine held_loop (F := laws_heldIntS.l0) (mk := mk_markIntS) (m := 1) (c := 1) (0 : Int) (by omega) (by omega) n (by omega) (by omega) (fun x0 q i h0 h1 h2 h3 h4 he k => ?_) (fun x0 q i h k => ?_) n 0 (by omega) (by omega)
  · simp only [laws_heldIntS.l0, if_pos h0, if_pos h1, rd, he, mk_markIntS, if_true]
    rw [w64 (by omega) h3, w64 (by omega) h4]
  · simp only [laws_heldIntS.l0]
    rw [if_neg h]
end Go.Proofs.Ytahfbpmaeijgaaa.StdFnExactPlanLevels
