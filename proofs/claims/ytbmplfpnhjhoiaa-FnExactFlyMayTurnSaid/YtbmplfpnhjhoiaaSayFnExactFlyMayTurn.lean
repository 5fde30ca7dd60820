/-
  What is asked of the law FnExactFlyMayTurn's printed function: over numbers and lists alone.
-/
import Derived.Test.YtbmplfpnhjhoiaaQFnExactFlyMayTurnx24
import Derived.Test.YtbmplfpnhjhoiaaOpens
namespace Go.Proofs.Ytbmplfpnhjhoiaa.SayFnExactFlyMayTurn
open Go.RowKit Go.Proofs.Ytbmplfpnhjhoiaa.QFnExactFlyMayTurn Go.Proofs.YtbmplfpnhjhoiaaW.PrintWords Go.Proofs.Ytbmplfpnhjhoiaa.Opens
def ok35 (x:Int×Int):Prop:=I64 x.1∧I64 x.2
def ok170 (x:S170):Prop:=I64 x.f0∧I64 x.f1∧I64 x.f2∧I64 x.f3∧I64 x.f4∧I64 x.f5∧Any x.f6
def ok91 (x:(Int×Int)×List S170×Int×Int):Prop:=ok35 x.1∧(x.2.1.length≤9223372036854775807∧ ∀y∈x.2.1,ok170 y)∧I64 x.2.2.1∧I64 x.2.2.2
def Said:Prop:= ∀(a0_0:Int) (a0_1:Int) (l0_2:List S170) (a0_3:Int) (a0_4:Int) (a1_0:Int) (a1_1:Int) (l1_2:List S170) (a1_3:Int) (a1_4:Int) (a2:Int) (a3:Int),(I64 a0_0∧I64 a0_1∧(l0_2.length≤9223372036854775807∧ ∀y∈l0_2,ok170 y)∧I64 a0_3∧I64 a0_4)→(I64 a1_0∧I64 a1_1∧(l1_2.length≤9223372036854775807∧ ∀y∈l1_2,ok170 y)∧I64 a1_3∧I64 a1_4)→I64 a2→I64 a3→ ∃k,laws_FnExactFlyMayTurn.f k a0_0 a0_1 l0_2 a0_3 a0_4 a1_0 a1_1 l1_2 a1_3 a1_4 a2 a3=some true
end Go.Proofs.Ytbmplfpnhjhoiaa.SayFnExactFlyMayTurn
