/-
  What is asked of the law FnExactSkyAlong's printed function: over numbers and lists alone.
-/
import Derived.Test.YtkdhfgonjipbbaaQFnExactSkyAlongx8
import Derived.Test.YtkdhfgonjipbbaaOpens
namespace Go.Proofs.Ytkdhfgonjipbbaa.SayFnExactSkyAlong
open Go.RowKit Go.Proofs.Ytkdhfgonjipbbaa.QFnExactSkyAlong Go.Proofs.YtkdhfgonjipbbaaW.PrintWords Go.Proofs.Ytkdhfgonjipbbaa.Opens
def ok74 (x : S74) : Prop := I64 x.f0 ∧ I64 x.f1 ∧ x.f2.size ≤ 9223372036854775807
def ok56 (x : S56) : Prop := I64 x.f0 ∧ I64 x.f1 ∧ (x.f2.length ≤ 9223372036854775807 ∧ ∀ y ∈ x.f2, ok74 y)
def ok58 (x : S58) : Prop := x.f0.size ≤ 9223372036854775807 ∧ x.f1.size ≤ 9223372036854775807 ∧ I64 x.f2 ∧ x.f3.size ≤ 9223372036854775807
def ok25 (x : List S56 × List S58) : Prop := (x.1.length ≤ 9223372036854775807 ∧ ∀ y ∈ x.1, ok56 y) ∧ (x.2.length ≤ 9223372036854775807 ∧ ∀ y ∈ x.2, ok58 y)
def Said : Prop := ∀ (l0_0 : List S56) (l0_1 : List S58) (a1 : ByteArray) (a2 : ByteArray), ((l0_0.length ≤ 9223372036854775807 ∧ ∀ y ∈ l0_0, ok56 y) ∧ (l0_1.length ≤ 9223372036854775807 ∧ ∀ y ∈ l0_1, ok58 y)) → a1.size ≤ 9223372036854775807 → a2.size ≤ 9223372036854775807 → ∃ k, laws_FnExactSkyAlong.f k l0_0 l0_1 a1 a2 = some true
end Go.Proofs.Ytkdhfgonjipbbaa.SayFnExactSkyAlong
