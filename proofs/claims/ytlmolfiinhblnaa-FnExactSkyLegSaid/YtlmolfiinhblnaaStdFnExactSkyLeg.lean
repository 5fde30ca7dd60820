/-
  What the helpers of the law FnExactSkyLeg come to.
-/
import Derived.Test.YtlmolfiinhblnaaQFnExactSkyLegx0
import Derived.Test.YtlmolfiinhblnaaQFnExactSkyLegx1
import Derived.Test.YtlmolfiinhblnaaQFnExactSkyLegx2
import Derived.Test.YtlmolfiinhblnaaQFnExactSkyLegx3
import Derived.Test.YtlmolfiinhblnaaQFnExactSkyLegx4
import Derived.Test.YtlmolfiinhblnaaQFnExactSkyLegx5
import Derived.Test.YtlmolfiinhblnaaQFnExactSkyLegx6
import Derived.Test.YtlmolfiinhblnaaKit
namespace Go.Proofs.Ytlmolfiinhblnaa.StdFnExactSkyLeg
open Go.RowKit Go.Proofs.Ytlmolfiinhblnaa.QFnExactSkyLeg Go.Proofs.YtlmolfiinhblnaaW.PrintWords Go.Proofs.Ytlmolfiinhblnaa.Kit
set_option linter.unusedSimpArgs false
set_option linter.unusedVariables false
theorem eqSkyCellS_ev (x0 : List S26) (hm : x0.length ≤ 1048576) : Ev (fun k => laws_eqSkyCellS.f k x0 x0) true := by
  unfold laws_eqSkyCellS.f
  refine Ev.ite_pos rfl ?_
  refine eq_loop (F := laws_eqSkyCellS.l0) x0 (by omega) (fun i h0 h1 h3 k => ?_) (fun i h k => ?_) x0.length 0 (by omega) (by omega)
  · simp only [laws_eqSkyCellS.l0, laws_eqSkyCell.f, if_pos h0, if_pos h1, if_true, if_false, Option.bind_some, bne_self_eq_false, Bool.false_eq_true]
    rw [w64 (by omega) h3]
  · simp only [laws_eqSkyCellS.l0]
    rw [if_neg h]
theorem rd_set_markSkyCellS (x0 : List S26) (i : Int) (v : S26) (h0 : 0 ≤ i) (h : i < (x0.length : Int)) : rd_T26 (x0.set i.toNat v) i = v := by
  show (x0.set i.toNat v).getD i.toNat _ = v
  rw [List.getD_eq_getElem?_getD, List.getElem?_set_self (by omega)]; rfl
def mk_markSkyCellS (q : Int) : S26 := ⟨q, q + 1⟩
theorem markSkyCellS_ev (x0 : List S26) (hm : x0.length ≤ 1048576) : Ev (fun k => laws_markSkyCellS.f k x0 1) (1 + 2 * (x0.length : Int), marks mk_markSkyCellS 1 2 x0.length) := by
  unfold laws_markSkyCellS.f
  refine Ev.cast (mark_loop (F := laws_markSkyCellS.l0) (mk := mk_markSkyCellS) (m := 1) (c := 2) (by omega) (by omega) x0.length (by omega) (by omega) (fun x0 q i h0 h1 h2 h3 h4 k => ?_) (fun x0 q i h k => ?_) x0.length 0 x0 rfl (by omega) (by omega) (by intro j hj; omega)) rfl
  · have e1 := w64 (n := q + 1) (by omega) (by omega)
    have e2 := w64 (n := q + 1 + 1) (by omega) (by omega)
    have e99 := w64 (n := i + 1) (by omega) (by omega)
    simp only [laws_markSkyCellS.l0, if_pos h0, if_pos h1, Option.bind_some, e1, e2, e99, rd_set_markSkyCellS, h0, h1, List.set_set, List.length_set]
    rw [show q + 2 = q + 1 + 1 by omega]
    rfl
  · simp only [laws_markSkyCellS.l0]
    rw [if_neg h]
theorem heldSkyCellS_ev (n : Nat) (hm : n ≤ 1048576) : Ev (fun k => laws_heldSkyCellS.f k (marks mk_markSkyCellS 1 2 n) 1) (1 + 2 * (n : Int)) := by
  unfold laws_heldSkyCellS.f
  refine held_loop (F := laws_heldSkyCellS.l0) (mk := mk_markSkyCellS) (m := 1) (c := 2) z26 (by omega) (by omega) n (by omega) (by omega) (fun x0 q i h0 h1 h2 h3 h4 he k => ?_) (fun x0 q i h k => ?_) n 0 (by omega) (by omega)
  · have he' : rd_T26 x0 i = mk_markSkyCellS q := he
    have e1 := w64 (n := q + 1) (by omega) (by omega)
    have e2 := w64 (n := q + 1 + 1) (by omega) (by omega)
    have e99 := w64 (n := i + 1) (by omega) (by omega)
    simp only [laws_heldSkyCellS.l0, if_pos h0, if_pos h1, he', mk_markSkyCellS, e1, e2, e99, if_true, bne_self_eq_false, Bool.false_eq_true, if_false]
    rw [show q + 2 = q + 1 + 1 by omega]
  · simp only [laws_heldSkyCellS.l0]
    rw [if_neg h]
end Go.Proofs.Ytlmolfiinhblnaa.StdFnExactSkyLeg
