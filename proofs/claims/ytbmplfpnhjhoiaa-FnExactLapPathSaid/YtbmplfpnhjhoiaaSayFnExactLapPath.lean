/-
  What is asked of the law FnExactLapPath's printed function: over numbers and lists alone.
-/
import Derived.Test.YtbmplfpnhjhoiaaQFnExactLapPathx10
import Derived.Test.YtbmplfpnhjhoiaaOpens
namespace Go.Proofs.Ytbmplfpnhjhoiaa.SayFnExactLapPath
open Go.RowKit Go.Proofs.Ytbmplfpnhjhoiaa.QFnExactLapPath Go.Proofs.YtbmplfpnhjhoiaaW.PrintWords Go.Proofs.Ytbmplfpnhjhoiaa.Opens
def ok35 (x : Int × Int) : Prop := I64 x.1 ∧ I64 x.2
def ok120 (x : S120) : Prop := I64 x.f0 ∧ I64 x.f1 ∧ I64 x.f2 ∧ I64 x.f3 ∧ I64 x.f4 ∧ I64 x.f5
def Said : Prop := ∀ (a0_0 : Int) (a0_1 : Int) (l1 : List S120), (I64 a0_0 ∧ I64 a0_1) → (l1.length ≤ 9223372036854775807 ∧ ∀ y ∈ l1, ok120 y) → ∃ k, laws_FnExactLapPath.f k a0_0 a0_1 l1 = some true
end Go.Proofs.Ytbmplfpnhjhoiaa.SayFnExactLapPath
