/-
  What is asked of the law FnExactFlyKindOk's printed function: over numbers and lists alone.
-/
import Derived.Test.YtahfbpmaeijgaaaPFnExactFlyKindOkx1
import Derived.Test.YtahfbpmaeijgaaaOpens
namespace Go.Proofs.Ytahfbpmaeijgaaa.SayFnExactFlyKindOk
open Go.RowKit Go.Proofs.Ytahfbpmaeijgaaa.PFnExactFlyKindOk Go.Proofs.YtahfbpmaeijgaaaW.PrintWords Go.Proofs.Ytahfbpmaeijgaaa.Opens
def ok24 (x : Int × Int) : Prop := I64 x.1 ∧ I64 x.2
def Said : Prop := ∀ (a0_0 : Int) (a0_1 : Int), (I64 a0_0 ∧ I64 a0_1) → laws_FnExactFlyKindOk.f a0_0 a0_1 = some true
end Go.Proofs.Ytahfbpmaeijgaaa.SayFnExactFlyKindOk
