/-
  What is asked of the law FnExactFlySmaller's printed function: over numbers and lists alone.
-/
import Derived.Test.YtahfbpmaeijgaaaQFnExactFlySmallerx4
import Derived.Test.YtahfbpmaeijgaaaOpens
namespace Go.Proofs.Ytahfbpmaeijgaaa.SayFnExactFlySmaller
open Go.RowKit Go.Proofs.Ytahfbpmaeijgaaa.QFnExactFlySmaller Go.Proofs.YtahfbpmaeijgaaaW.PrintWords Go.Proofs.Ytahfbpmaeijgaaa.Opens
def ok99 (x : S99) : Prop := I64 x.f0 ∧ I64 x.f1 ∧ I64 x.f2 ∧ I64 x.f3 ∧ I64 x.f4 ∧ I64 x.f5
def Said : Prop := ∀ (l0 : List S99) (l1 : List S99), (l0.length ≤ 9223372036854775807 ∧ ∀ y ∈ l0, ok99 y) → (l1.length ≤ 9223372036854775807 ∧ ∀ y ∈ l1, ok99 y) → ∃ k, laws_FnExactFlySmaller.f k l0 l1 = some true
end Go.Proofs.Ytahfbpmaeijgaaa.SayFnExactFlySmaller
