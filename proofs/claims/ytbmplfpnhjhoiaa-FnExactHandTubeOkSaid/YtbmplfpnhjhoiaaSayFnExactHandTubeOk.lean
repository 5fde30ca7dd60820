/-
  What is asked of the law FnExactHandTubeOk's printed function: over numbers and lists alone.
-/
import Derived.Test.YtbmplfpnhjhoiaaQFnExactHandTubeOkx11
import Derived.Test.YtbmplfpnhjhoiaaOpens
namespace Go.Proofs.Ytbmplfpnhjhoiaa.SayFnExactHandTubeOk
open Go.RowKit Go.Proofs.Ytbmplfpnhjhoiaa.QFnExactHandTubeOk Go.Proofs.YtbmplfpnhjhoiaaW.PrintWords Go.Proofs.Ytbmplfpnhjhoiaa.Opens
def ok52 (x : S52) : Prop := x.f0.size ≤ 9223372036854775807 ∧ I64 x.f1 ∧ I64 x.f2 ∧ I64 x.f3 ∧ I64 x.f4
def ok120 (x : S120) : Prop := I64 x.f0 ∧ I64 x.f1 ∧ I64 x.f2 ∧ I64 x.f3 ∧ I64 x.f4 ∧ I64 x.f5
def Said : Prop := ∀ (l0 : List S52) (l1 : List S120), (l0.length ≤ 9223372036854775807 ∧ ∀ y ∈ l0, ok52 y) → (l1.length ≤ 9223372036854775807 ∧ ∀ y ∈ l1, ok120 y) → ∃ k, laws_FnExactHandTubeOk.f k l0 l1 = some true
end Go.Proofs.Ytbmplfpnhjhoiaa.SayFnExactHandTubeOk
