/-
  What is asked of the law FnExactHandPartOf's printed function: over numbers and lists alone.
-/
import Derived.Test.YtbmplfpnhjhoiaaQFnExactHandPartOfx9
import Derived.Test.YtbmplfpnhjhoiaaOpens
namespace Go.Proofs.Ytbmplfpnhjhoiaa.SayFnExactHandPartOf
open Go.RowKit Go.Proofs.Ytbmplfpnhjhoiaa.QFnExactHandPartOf Go.Proofs.YtbmplfpnhjhoiaaW.PrintWords Go.Proofs.Ytbmplfpnhjhoiaa.Opens
def ok52 (x : ByteArray × Int × Int × Int × Int) : Prop := x.1.size ≤ 9223372036854775807 ∧ I64 x.2.1 ∧ I64 x.2.2.1 ∧ I64 x.2.2.2.1 ∧ I64 x.2.2.2.2
def ok120 (x : S120) : Prop := I64 x.f0 ∧ I64 x.f1 ∧ I64 x.f2 ∧ I64 x.f3 ∧ I64 x.f4 ∧ I64 x.f5
def Said : Prop := ∀ (a0_0 : ByteArray) (a0_1 : Int) (a0_2 : Int) (a0_3 : Int) (a0_4 : Int) (l1 : List S120), (a0_0.size ≤ 9223372036854775807 ∧ I64 a0_1 ∧ I64 a0_2 ∧ I64 a0_3 ∧ I64 a0_4) → (l1.length ≤ 9223372036854775807 ∧ ∀ y ∈ l1, ok120 y) → ∃ k, laws_FnExactHandPartOf.f k a0_0 a0_1 a0_2 a0_3 a0_4 l1 = some true
end Go.Proofs.Ytbmplfpnhjhoiaa.SayFnExactHandPartOf
