/-
  What the helpers of the law FnExactFlySmaller come to.
-/
import Derived.Test.YtahfbpmaeijgaaaQFnExactFlySmallerx0
import Derived.Test.YtahfbpmaeijgaaaQFnExactFlySmallerx1
import Derived.Test.YtahfbpmaeijgaaaQFnExactFlySmallerx2
import Derived.Test.YtahfbpmaeijgaaaQFnExactFlySmallerx3
import Derived.Test.YtahfbpmaeijgaaaQFnExactFlySmallerx4
import Derived.Test.YtahfbpmaeijgaaaKit
namespace Go.Proofs.Ytahfbpmaeijgaaa.StdFnExactFlySmaller
open Go.RowKit Go.Proofs.Ytahfbpmaeijgaaa.QFnExactFlySmaller Go.Proofs.YtahfbpmaeijgaaaW.PrintWords Go.Proofs.Ytahfbpmaeijgaaa.Kit
set_option linter.unusedSimpArgs false
set_option linter.unusedVariables false
theorem szFlyBoxS_eq (x0 : List S99) (hm : x0.length ≤ 9223372036854775807) (a : Int) (h0 : 0 ≤ a) (ha : a ≤ 1048576) : laws_szFlyBoxS.f x0 a = some (if (x0.length : Int) ≤ a then a - x0.length else -1) := by
  unfold laws_szFlyBoxS.f
  rw [w64 (by omega) (by omega)]
  by_cases h : (x0.length : Int) ≤ a
  · rw [if_neg (by omega), if_pos h]
  · rw [if_pos (by omega), if_neg h]
def conv_toFlyBoxS (x : S99) : S97 := ⟨x.f0, x.f1, x.f2, x.f3, x.f4, x.f5⟩
theorem toFlyBoxS_ev (x0 : List S99) (hm : x0.length ≤ 1048576) : Ev (fun k => laws_toFlyBoxS.f k x0) (x0.map conv_toFlyBoxS) := by
  unfold laws_toFlyBoxS.f
  refine Ev.ite_pos (by omega) (Ev.ite_pos (by omega) ?_)
  refine Ev.cast (copy_loop (F := laws_toFlyBoxS.l0) (conv := conv_toFlyBoxS) (z := z99) (fun x0 x3 i h0 h1 h2 h3 k => ?_) (fun x0 x3 i h k => ?_) x0 (by omega) x0.length 0 _ (by omega) (by omega) (by simp) (fun j hj => by omega)) rfl
  · simp only [laws_toFlyBoxS.l0, laws_toFlyBox.f, Option.bind_some, rd_T99, if_pos h0, if_pos h1, if_pos h2]
    rw [w64 (by omega) h3]
    rfl
  · simp only [laws_toFlyBoxS.l0]
    rw [if_neg h]
theorem eqFlyBoxS_ev (x0 : List S97) (hm : x0.length ≤ 1048576) : Ev (fun k => laws_eqFlyBoxS.f k x0 x0) true := by
  unfold laws_eqFlyBoxS.f
  refine Ev.ite_pos rfl ?_
  refine eq_loop (F := laws_eqFlyBoxS.l0) x0 (by omega) (fun i h0 h1 h3 k => ?_) (fun i h k => ?_) x0.length 0 (by omega) (by omega)
  · simp only [laws_eqFlyBoxS.l0, laws_eqFlyBox.f, if_pos h0, if_pos h1, if_true, if_false, Option.bind_some, bne_self_eq_false, Bool.false_eq_true]
    rw [w64 (by omega) h3]
  · simp only [laws_eqFlyBoxS.l0]
    rw [if_neg h]
end Go.Proofs.Ytahfbpmaeijgaaa.StdFnExactFlySmaller
