/-
  What the helpers of the law FnExactFlyMayTurn come to.
-/
import Derived.Test.YtbmplfpnhjhoiaaQFnExactFlyMayTurnx0
import Derived.Test.YtbmplfpnhjhoiaaQFnExactFlyMayTurnx1
import Derived.Test.YtbmplfpnhjhoiaaQFnExactFlyMayTurnx2
import Derived.Test.YtbmplfpnhjhoiaaQFnExactFlyMayTurnx3
import Derived.Test.YtbmplfpnhjhoiaaQFnExactFlyMayTurnx4
import Derived.Test.YtbmplfpnhjhoiaaQFnExactFlyMayTurnx5
import Derived.Test.YtbmplfpnhjhoiaaQFnExactFlyMayTurnx6
import Derived.Test.YtbmplfpnhjhoiaaQFnExactFlyMayTurnx7
import Derived.Test.YtbmplfpnhjhoiaaQFnExactFlyMayTurnx8
import Derived.Test.YtbmplfpnhjhoiaaQFnExactFlyMayTurnx9
import Derived.Test.YtbmplfpnhjhoiaaQFnExactFlyMayTurnx10
import Derived.Test.YtbmplfpnhjhoiaaQFnExactFlyMayTurnx11
import Derived.Test.YtbmplfpnhjhoiaaQFnExactFlyMayTurnx12
import Derived.Test.YtbmplfpnhjhoiaaQFnExactFlyMayTurnx13
import Derived.Test.YtbmplfpnhjhoiaaQFnExactFlyMayTurnx14
import Derived.Test.YtbmplfpnhjhoiaaQFnExactFlyMayTurnx15
import Derived.Test.YtbmplfpnhjhoiaaQFnExactFlyMayTurnx16
import Derived.Test.YtbmplfpnhjhoiaaQFnExactFlyMayTurnx17
import Derived.Test.YtbmplfpnhjhoiaaQFnExactFlyMayTurnx18
import Derived.Test.YtbmplfpnhjhoiaaQFnExactFlyMayTurnx19
import Derived.Test.YtbmplfpnhjhoiaaQFnExactFlyMayTurnx20
import Derived.Test.YtbmplfpnhjhoiaaQFnExactFlyMayTurnx21
import Derived.Test.YtbmplfpnhjhoiaaQFnExactFlyMayTurnx22
import Derived.Test.YtbmplfpnhjhoiaaQFnExactFlyMayTurnx23
import Derived.Test.YtbmplfpnhjhoiaaQFnExactFlyMayTurnx24
import Derived.Test.YtbmplfpnhjhoiaaKit
namespace Go.Proofs.Ytbmplfpnhjhoiaa.StdFnExactFlyMayTurn
open Go.RowKit Go.Proofs.Ytbmplfpnhjhoiaa.QFnExactFlyMayTurn Go.Proofs.YtbmplfpnhjhoiaaW.PrintWords Go.Proofs.Ytbmplfpnhjhoiaa.Kit
set_option linter.unusedSimpArgs false
set_option linter.unusedVariables false
theorem eqFlyStepS_ev (x0:List S132) (hm:x0.length≤1048576):Ev (fun k=>laws_eqFlyStepS.f k x0 x0) true:=by
  unfold laws_eqFlyStepS.f;refine Ev.ite_pos rfl ?_;refine eq_loop (F:=laws_eqFlyStepS.l0) x0 (by omega) (fun i h0 h1 h3 k=>?_) (fun i h k=>?_) x0.length 0 (by omega) (by omega)
  · simp only[laws_eqFlyStepS.l0,laws_eqFlyStep.f,if_pos h0,if_pos h1,if_true,if_false,Option.bind_some,bne_self_eq_false,Bool.false_eq_true]
    rw[w64 (by omega) h3]
  · simp only[laws_eqFlyStepS.l0]
    rw[if_neg h]
theorem szFlyStepS_eq (x0:List S170) (hm:x0.length≤9223372036854775807) (a:Int) (h0:0≤a) (ha:a≤1048576):laws_szFlyStepS.f x0 a=some (if(x0.length:Int)≤a then a-x0.length else-1):=by
  unfold laws_szFlyStepS.f;rw[w64 (by omega) (by omega)]
  by_cases h:(x0.length:Int)≤a
  · rw[if_neg (by omega),if_pos h]
  · rw[if_pos (by omega),if_neg h]
def conv_toFlyStepS (x:S170):S132:=⟨x.f0,x.f1,x.f2,x.f3,x.f4,x.f5,x.f6⟩
theorem toFlyStepS_ev (x0:List S170) (hm:x0.length≤1048576):Ev (fun k=>laws_toFlyStepS.f k x0) (x0.map conv_toFlyStepS):=by
  unfold laws_toFlyStepS.f;refine Ev.ite_pos (by omega) (Ev.ite_pos (by omega) ?_);refine Ev.cast (copy_loop (F:=laws_toFlyStepS.l0) (conv:=conv_toFlyStepS) (z:=z170) (fun x0 x3 i h0 h1 h2 h3 k=>?_) (fun x0 x3 i h k=>?_) x0 (by omega) x0.length 0 _ (by omega) (by omega) (by simp) (fun j hj=>by omega)) rfl
  · simp only[laws_toFlyStepS.l0,laws_toFlyStep.f,Option.bind_some,rd_T170,if_pos h0,if_pos h1,if_pos h2]
    rw[w64 (by omega) h3]
    rfl
  · simp only[laws_toFlyStepS.l0]
    rw[if_neg h]
end Go.Proofs.Ytbmplfpnhjhoiaa.StdFnExactFlyMayTurn
