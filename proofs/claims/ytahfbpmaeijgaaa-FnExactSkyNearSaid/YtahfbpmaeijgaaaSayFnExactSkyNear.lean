/-
  What is asked of the law FnExactSkyNear's printed function: over numbers and lists alone.
-/
import Derived.Test.YtahfbpmaeijgaaaPFnExactSkyNearx1
import Derived.Test.YtahfbpmaeijgaaaOpens
namespace Go.Proofs.Ytahfbpmaeijgaaa.SayFnExactSkyNear
open Go.RowKit Go.Proofs.Ytahfbpmaeijgaaa.PFnExactSkyNear Go.Proofs.YtahfbpmaeijgaaaW.PrintWords Go.Proofs.Ytahfbpmaeijgaaa.Opens
def ok30 (x : Int × Int × Int) : Prop := I64 x.1 ∧ I64 x.2.1 ∧ I64 x.2.2
def Said : Prop := ∀ (a0_0 : Int) (a0_1 : Int) (a0_2 : Int) (a1_0 : Int) (a1_1 : Int) (a1_2 : Int), (I64 a0_0 ∧ I64 a0_1 ∧ I64 a0_2) → (I64 a1_0 ∧ I64 a1_1 ∧ I64 a1_2) → ∃ k, laws_FnExactSkyNear.f k a0_0 a0_1 a0_2 a1_0 a1_1 a1_2 = some true
end Go.Proofs.Ytahfbpmaeijgaaa.SayFnExactSkyNear
