/-
  What the helpers of the law FnExactFlyTurnBy come to.
-/
import Derived.Test.YtglgfgeepdmlbaaQFnExactFlyTurnByx0
import Derived.Test.YtglgfgeepdmlbaaQFnExactFlyTurnByx1
import Derived.Test.YtglgfgeepdmlbaaQFnExactFlyTurnByx2
import Derived.Test.YtglgfgeepdmlbaaQFnExactFlyTurnByx3
import Derived.Test.YtglgfgeepdmlbaaQFnExactFlyTurnByx4
import Derived.Test.YtglgfgeepdmlbaaQFnExactFlyTurnByx5
import Derived.Test.YtglgfgeepdmlbaaQFnExactFlyTurnByx6
import Derived.Test.YtglgfgeepdmlbaaQFnExactFlyTurnByx7
import Derived.Test.YtglgfgeepdmlbaaQFnExactFlyTurnByx8
import Derived.Test.YtglgfgeepdmlbaaQFnExactFlyTurnByx9
import Derived.Test.YtglgfgeepdmlbaaQFnExactFlyTurnByx10
import Derived.Test.YtglgfgeepdmlbaaQFnExactFlyTurnByx11
import Derived.Test.YtglgfgeepdmlbaaQFnExactFlyTurnByx12
import Derived.Test.YtglgfgeepdmlbaaQFnExactFlyTurnByx13
import Derived.Test.YtglgfgeepdmlbaaQFnExactFlyTurnByx14
import Derived.Test.YtglgfgeepdmlbaaQFnExactFlyTurnByx15
import Derived.Test.YtglgfgeepdmlbaaQFnExactFlyTurnByx16
import Derived.Test.YtglgfgeepdmlbaaQFnExactFlyTurnByx17
import Derived.Test.YtglgfgeepdmlbaaQFnExactFlyTurnByx18
import Derived.Test.YtglgfgeepdmlbaaQFnExactFlyTurnByx19
import Derived.Test.YtglgfgeepdmlbaaQFnExactFlyTurnByx20
import Derived.Test.YtglgfgeepdmlbaaQFnExactFlyTurnByx21
import Derived.Test.YtglgfgeepdmlbaaQFnExactFlyTurnByx22
import Derived.Test.YtglgfgeepdmlbaaQFnExactFlyTurnByx23
import Derived.Test.YtglgfgeepdmlbaaQFnExactFlyTurnByx24
import Derived.Test.YtglgfgeepdmlbaaQFnExactFlyTurnByx25
import Derived.Test.YtglgfgeepdmlbaaQFnExactFlyTurnByx26
import Derived.Test.YtglgfgeepdmlbaaKit
namespace Go.Proofs.Ytglgfgeepdmlbaa.StdFnExactFlyTurnBy
open Go.RowKit Go.Proofs.Ytglgfgeepdmlbaa.QFnExactFlyTurnBy Go.Proofs.YtglgfgeepdmlbaaW.PrintWords Go.Proofs.Ytglgfgeepdmlbaa.Kit
set_option linter.unusedSimpArgs false
set_option linter.unusedVariables false
theorem szFlyStepS_eq (x0 : List S60) (hm : x0.length ≤ 9223372036854775807) (a : Int) (h0 : 0 ≤ a) (ha : a ≤ 1048576) : laws_szFlyStepS.f x0 a = some (if (x0.length : Int) ≤ a then a - x0.length else -1) := by
  unfold laws_szFlyStepS.f
  rw [w64 (by omega) (by omega)]
  by_cases h : (x0.length : Int) ≤ a
  · rw [if_neg (by omega), if_pos h]
  · rw [if_pos (by omega), if_neg h]
def conv_toFlyStepS (x : S60) : S53 := ⟨x.f0, x.f1, x.f2, x.f3, x.f4, x.f5, x.f6⟩
theorem toFlyStepS_ev (x0 : List S60) (hm : x0.length ≤ 1048576) : Ev (fun k => laws_toFlyStepS.f k x0) (x0.map conv_toFlyStepS) := by
  unfold laws_toFlyStepS.f
  refine Ev.ite_pos (by omega) (Ev.ite_pos (by omega) ?_)
  refine Ev.cast (copy_loop (F := laws_toFlyStepS.l0) (conv := conv_toFlyStepS) (z := z60) (fun x0 x3 i h0 h1 h2 h3 k => ?_) (fun x0 x3 i h k => ?_) x0 (by omega) x0.length 0 _ (by omega) (by omega) (by simp) (fun j hj => by omega)) rfl
  · simp only [laws_toFlyStepS.l0, laws_toFlyStep.f, Option.bind_some, rd_T60, if_pos h0, if_pos h1, if_pos h2]
    rw [w64 (by omega) h3]
    rfl
  · simp only [laws_toFlyStepS.l0]
    rw [if_neg h]
theorem eqFlyStepS_ev (x0 : List S53) (hm : x0.length ≤ 1048576) : Ev (fun k => laws_eqFlyStepS.f k x0 x0) true := by
  unfold laws_eqFlyStepS.f
  refine Ev.ite_pos rfl ?_
  refine eq_loop (F := laws_eqFlyStepS.l0) x0 (by omega) (fun i h0 h1 h3 k => ?_) (fun i h k => ?_) x0.length 0 (by omega) (by omega)
  · simp only [laws_eqFlyStepS.l0, laws_eqFlyStep.f, if_pos h0, if_pos h1, if_true, if_false, Option.bind_some, bne_self_eq_false, Bool.false_eq_true]
    rw [w64 (by omega) h3]
  · simp only [laws_eqFlyStepS.l0]
    rw [if_neg h]
end Go.Proofs.Ytglgfgeepdmlbaa.StdFnExactFlyTurnBy
