/-
  What is asked of the law FnExactSkyLeg's printed function: over numbers and lists alone.
-/
import Derived.Test.YtlmolfiinhblnaaQFnExactSkyLegx6
import Derived.Test.YtlmolfiinhblnaaOpens
namespace Go.Proofs.Ytlmolfiinhblnaa.SayFnExactSkyLeg
open Go.RowKit Go.Proofs.Ytlmolfiinhblnaa.QFnExactSkyLeg Go.Proofs.YtlmolfiinhblnaaW.PrintWords Go.Proofs.Ytlmolfiinhblnaa.Opens
def ok23 (x : Int × Int) : Prop := I64 x.1 ∧ I64 x.2
def Said : Prop := ∀ (a0_0 : Int) (a0_1 : Int) (a1_0 : Int) (a1_1 : Int), (I64 a0_0 ∧ I64 a0_1) → (I64 a1_0 ∧ I64 a1_1) → ∃ k, laws_FnExactSkyLeg.f k a0_0 a0_1 a1_0 a1_1 = some true
end Go.Proofs.Ytlmolfiinhblnaa.SayFnExactSkyLeg
