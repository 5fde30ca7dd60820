/-
  What is asked of the law FnExactLapDue's printed function: over numbers and lists alone.
-/
import Derived.Test.YtbmplfpnhjhoiaaQFnExactLapDuex6
import Derived.Test.YtbmplfpnhjhoiaaOpens
namespace Go.Proofs.Ytbmplfpnhjhoiaa.SayFnExactLapDue
open Go.RowKit Go.Proofs.Ytbmplfpnhjhoiaa.QFnExactLapDue Go.Proofs.YtbmplfpnhjhoiaaW.PrintWords Go.Proofs.Ytbmplfpnhjhoiaa.Opens
def ok52 (x : S52) : Prop := x.f0.size ≤ 9223372036854775807 ∧ I64 x.f1 ∧ I64 x.f2 ∧ I64 x.f3 ∧ I64 x.f4
def ok120 (x : S120) : Prop := I64 x.f0 ∧ I64 x.f1 ∧ I64 x.f2 ∧ I64 x.f3 ∧ I64 x.f4 ∧ I64 x.f5
def Said : Prop := ∀ (l0 : List S52) (l1 : List S120) (a2 : Int), (l0.length ≤ 9223372036854775807 ∧ ∀ y ∈ l0, ok52 y) → (l1.length ≤ 9223372036854775807 ∧ ∀ y ∈ l1, ok120 y) → I64 a2 → ∃ k, laws_FnExactLapDue.f k l0 l1 a2 = some true
end Go.Proofs.Ytbmplfpnhjhoiaa.SayFnExactLapDue
