/-
  What is asked of the law FnExactSkyFind's printed function: over numbers and lists alone.
-/
import Derived.Test.YtlcaalhbdfeflaaQFnExactSkyFindx8
import Derived.Test.YtlcaalhbdfeflaaOpens
namespace Go.Proofs.Ytlcaalhbdfeflaa.SayFnExactSkyFind
open Go.RowKit Go.Proofs.Ytlcaalhbdfeflaa.QFnExactSkyFind Go.Proofs.YtlcaalhbdfeflaaW.PrintWords Go.Proofs.Ytlcaalhbdfeflaa.Opens
def ok68 (x : S68) : Prop := I64 x.f0 ∧ I64 x.f1 ∧ x.f2.size ≤ 9223372036854775807
def ok55 (x : S55) : Prop := I64 x.f0 ∧ I64 x.f1 ∧ (x.f2.length ≤ 9223372036854775807 ∧ ∀ y ∈ x.f2, ok68 y)
def ok58 (x : S58) : Prop := x.f0.size ≤ 9223372036854775807 ∧ x.f1.size ≤ 9223372036854775807 ∧ I64 x.f2 ∧ x.f3.size ≤ 9223372036854775807
def ok25 (x : List S55 × List S58) : Prop := (x.1.length ≤ 9223372036854775807 ∧ ∀ y ∈ x.1, ok55 y) ∧ (x.2.length ≤ 9223372036854775807 ∧ ∀ y ∈ x.2, ok58 y)
def ok27 (x : Int × Int × Int) : Prop := I64 x.1 ∧ I64 x.2.1 ∧ I64 x.2.2
def Said : Prop := ∀ (l0_0 : List S55) (l0_1 : List S58) (a1_0 : Int) (a1_1 : Int) (a1_2 : Int), ((l0_0.length ≤ 9223372036854775807 ∧ ∀ y ∈ l0_0, ok55 y) ∧ (l0_1.length ≤ 9223372036854775807 ∧ ∀ y ∈ l0_1, ok58 y)) → (I64 a1_0 ∧ I64 a1_1 ∧ I64 a1_2) → ∃ k, laws_FnExactSkyFind.f k l0_0 l0_1 a1_0 a1_1 a1_2 = some true
end Go.Proofs.Ytlcaalhbdfeflaa.SayFnExactSkyFind
