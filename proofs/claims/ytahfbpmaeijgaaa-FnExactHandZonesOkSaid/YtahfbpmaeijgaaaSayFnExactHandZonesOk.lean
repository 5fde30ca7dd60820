/-
  What is asked of the law FnExactHandZonesOk's printed function: over numbers and lists alone.
-/
import Derived.Test.YtahfbpmaeijgaaaQFnExactHandZonesOkx5
import Derived.Test.YtahfbpmaeijgaaaOpens
namespace Go.Proofs.Ytahfbpmaeijgaaa.SayFnExactHandZonesOk
open Go.RowKit Go.Proofs.Ytahfbpmaeijgaaa.QFnExactHandZonesOk Go.Proofs.YtahfbpmaeijgaaaW.PrintWords Go.Proofs.Ytahfbpmaeijgaaa.Opens
def ok115 (x : S115) : Prop := x.f0.size ≤ 9223372036854775807 ∧ I64 x.f1 ∧ I64 x.f2 ∧ I64 x.f3 ∧ I64 x.f4
def Said : Prop := ∀ (l0 : List S115), (l0.length ≤ 9223372036854775807 ∧ ∀ y ∈ l0, ok115 y) → ∃ k, laws_FnExactHandZonesOk.f k l0 = some true
end Go.Proofs.Ytahfbpmaeijgaaa.SayFnExactHandZonesOk
