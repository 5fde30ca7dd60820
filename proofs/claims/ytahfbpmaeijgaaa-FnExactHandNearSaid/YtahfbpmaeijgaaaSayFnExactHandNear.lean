/-
  What is asked of the law FnExactHandNear's printed function: over numbers and lists alone.
-/
import Derived.Test.YtahfbpmaeijgaaaPFnExactHandNearx3
import Derived.Test.YtahfbpmaeijgaaaOpens
namespace Go.Proofs.Ytahfbpmaeijgaaa.SayFnExactHandNear
open Go.RowKit Go.Proofs.Ytahfbpmaeijgaaa.PFnExactHandNear Go.Proofs.YtahfbpmaeijgaaaW.PrintWords Go.Proofs.Ytahfbpmaeijgaaa.Opens
def ok105 (x : S105) : Prop := I64 x.f0 ∧ I64 x.f1 ∧ I64 x.f2 ∧ I64 x.f3 ∧ I64 x.f4 ∧ I64 x.f5
def Said : Prop := ∀ (l0 : List S105) (l1 : List S105), (l0.length ≤ 9223372036854775807 ∧ ∀ x ∈ l0, ok105 x) → (l1.length ≤ 9223372036854775807 ∧ ∀ x ∈ l1, ok105 x) → ∃ k, laws_FnExactHandNear.f k l0 l1 = some true
end Go.Proofs.Ytahfbpmaeijgaaa.SayFnExactHandNear
