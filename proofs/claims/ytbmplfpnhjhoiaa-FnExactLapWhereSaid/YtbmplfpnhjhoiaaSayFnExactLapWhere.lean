/-
  What is asked of the law FnExactLapWhere's printed function: over numbers and lists alone.
-/
import Derived.Test.YtbmplfpnhjhoiaaQFnExactLapWherex4
import Derived.Test.YtbmplfpnhjhoiaaOpens
namespace Go.Proofs.Ytbmplfpnhjhoiaa.SayFnExactLapWhere
open Go.RowKit Go.Proofs.Ytbmplfpnhjhoiaa.QFnExactLapWhere Go.Proofs.YtbmplfpnhjhoiaaW.PrintWords Go.Proofs.Ytbmplfpnhjhoiaa.Opens
def ok35 (x : Int × Int) : Prop := I64 x.1 ∧ I64 x.2
def ok120 (x : S120) : Prop := I64 x.f0 ∧ I64 x.f1 ∧ I64 x.f2 ∧ I64 x.f3 ∧ I64 x.f4 ∧ I64 x.f5
def ok38 (x : ByteArray × (Int × Int) × Int × Int × List S120 × List Int) : Prop := x.1.size ≤ 9223372036854775807 ∧ ok35 x.2.1 ∧ I64 x.2.2.1 ∧ I64 x.2.2.2.1 ∧ (x.2.2.2.2.1.length ≤ 9223372036854775807 ∧ ∀ y ∈ x.2.2.2.2.1, ok120 y) ∧ (x.2.2.2.2.2.length ≤ 9223372036854775807 ∧ ∀ y ∈ x.2.2.2.2.2, I64 y)
def Said : Prop := ∀ (a0_0 : ByteArray) (a0_1 : Int) (a0_2 : Int) (a0_3 : Int) (a0_4 : Int) (l0_5 : List S120) (l0_6 : List Int), (a0_0.size ≤ 9223372036854775807 ∧ I64 a0_1 ∧ I64 a0_2 ∧ I64 a0_3 ∧ I64 a0_4 ∧ (l0_5.length ≤ 9223372036854775807 ∧ ∀ y ∈ l0_5, ok120 y) ∧ (l0_6.length ≤ 9223372036854775807 ∧ ∀ y ∈ l0_6, I64 y)) → ∃ k, laws_FnExactLapWhere.f k a0_0 a0_1 a0_2 a0_3 a0_4 l0_5 l0_6 = some true
end Go.Proofs.Ytbmplfpnhjhoiaa.SayFnExactLapWhere
