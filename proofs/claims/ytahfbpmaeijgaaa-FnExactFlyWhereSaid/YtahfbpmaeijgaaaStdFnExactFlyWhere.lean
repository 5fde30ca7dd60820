/-
  What the helpers of the law FnExactFlyWhere come to.
-/
import Derived.Test.YtahfbpmaeijgaaaPFnExactFlyWherex0
import Derived.Test.YtahfbpmaeijgaaaPFnExactFlyWherex1
import Derived.Test.YtahfbpmaeijgaaaKit
namespace Go.Proofs.Ytahfbpmaeijgaaa.StdFnExactFlyWhere
open Go.RowKit Go.Proofs.Ytahfbpmaeijgaaa.PFnExactFlyWhere Go.Proofs.YtahfbpmaeijgaaaW.PrintWords Go.Proofs.Ytahfbpmaeijgaaa.Kit
set_option linter.unusedSimpArgs false
set_option linter.unusedVariables false
theorem toIntS_ev (x0 : List Int) (hm : x0.length ≤ 1048576) : Ev (fun k => laws_toIntS.f k x0) x0 := by
  unfold laws_toIntS.f
  refine Ev.ite_pos (by omega) (Ev.ite_pos (by omega) ?_)
  refine Ev.cast (copy_loop (F := laws_toIntS.l0) (conv := (fun x : Int => x)) (z := 0) (fun x0 x3 i h0 h1 h2 h3 k => ?_) (fun x0 x3 i h k => ?_) x0 (by omega) x0.length 0 _ (by omega) (by omega) (by simp) (fun j hj => by omega)) (by simp)
  · simp only [laws_toIntS.l0, rd, if_pos h0, if_pos h1, if_pos h2]
    rw [w64 (by omega) h3]
  · simp only [laws_toIntS.l0]
    rw [if_neg h]
theorem eqIntS_ev (x0 : List Int) (hm : x0.length ≤ 1048576) : Ev (fun k => laws_eqIntS.f k x0 x0) true := by
  unfold laws_eqIntS.f
  refine Ev.ite_pos rfl ?_
  refine eq_loop (F := laws_eqIntS.l0) x0 (by omega) (fun i h0 h1 h3 k => ?_) (fun i h k => ?_) x0.length 0 (by omega) (by omega)
  · simp only [laws_eqIntS.l0, if_pos h0, if_pos h1, if_true, if_false, Option.bind_some, bne_self_eq_false, Bool.false_eq_true]
    rw [w64 (by omega) h3]
  · simp only [laws_eqIntS.l0]
    rw [if_neg h]
end Go.Proofs.Ytahfbpmaeijgaaa.StdFnExactFlyWhere
