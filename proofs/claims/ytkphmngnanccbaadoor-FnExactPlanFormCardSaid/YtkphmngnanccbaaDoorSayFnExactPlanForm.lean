/-
  What is asked of the law FnExactPlanForm's printed function: over numbers and lists alone.
-/
import Derived.Test.YtkphmngnanccbaaDoorQFnExactPlanFormx6
import Derived.Test.YtkphmngnanccbaaDoorOpens
namespace Go.Proofs.YtkphmngnanccbaaDoor.SayFnExactPlanForm
open Go.RowKit Go.Proofs.YtkphmngnanccbaaDoor.QFnExactPlanForm Go.Proofs.YtkphmngnanccbaaDoorW.PrintWords Go.Proofs.YtkphmngnanccbaaDoor.Opens
def ok23 (x : ByteArray × Int × Int × ByteArray) : Prop := x.1.size ≤ 9223372036854775807 ∧ I64 x.2.1 ∧ I64 x.2.2.1 ∧ x.2.2.2.size ≤ 9223372036854775807
def Said : Prop := ∀ (a0_0 : ByteArray) (a0_1 : Int) (a0_2 : Int) (a0_3 : ByteArray), (a0_0.size ≤ 9223372036854775807 ∧ I64 a0_1 ∧ I64 a0_2 ∧ a0_3.size ≤ 9223372036854775807) → ∃ k, laws_FnExactPlanForm.f k a0_0 a0_1 a0_2 a0_3 = some true
end Go.Proofs.YtkphmngnanccbaaDoor.SayFnExactPlanForm
