/-
  What is asked of the law FnExactPlanBaseOk's printed function: over numbers and lists alone.
-/
import Derived.Test.YtleenmphhlioaaaQFnExactPlanBaseOkx9
import Derived.Test.YtleenmphhlioaaaOpens
namespace Go.Proofs.Ytleenmphhlioaaa.SayFnExactPlanBaseOk
open Go.RowKit Go.Proofs.Ytleenmphhlioaaa.QFnExactPlanBaseOk Go.Proofs.YtleenmphhlioaaaW.PrintWords Go.Proofs.Ytleenmphhlioaaa.Opens
def ok50 (x : S50) : Prop := x.f0.size ≤ 9223372036854775807 ∧ I64 x.f1 ∧ I64 x.f2
def ok52 (x : S52) : Prop := x.f0.size ≤ 9223372036854775807 ∧ I64 x.f1 ∧ I64 x.f2
def ok25 (x : List S50 × List S52) : Prop := (x.1.length ≤ 9223372036854775807 ∧ ∀ y ∈ x.1, ok50 y) ∧ (x.2.length ≤ 9223372036854775807 ∧ ∀ y ∈ x.2, ok52 y)
def Said : Prop := ∀ (l0_0 : List S50) (l0_1 : List S52), ((l0_0.length ≤ 9223372036854775807 ∧ ∀ y ∈ l0_0, ok50 y) ∧ (l0_1.length ≤ 9223372036854775807 ∧ ∀ y ∈ l0_1, ok52 y)) → ∃ k, laws_FnExactPlanBaseOk.f k l0_0 l0_1 = some true
end Go.Proofs.Ytleenmphhlioaaa.SayFnExactPlanBaseOk
