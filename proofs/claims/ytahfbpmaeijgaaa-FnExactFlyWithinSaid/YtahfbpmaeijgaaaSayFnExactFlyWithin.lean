/-
  What is asked of the law FnExactFlyWithin's printed function: over numbers and lists alone.
-/
import Derived.Test.YtahfbpmaeijgaaaPFnExactFlyWithinx2
import Derived.Test.YtahfbpmaeijgaaaOpens
namespace Go.Proofs.Ytahfbpmaeijgaaa.SayFnExactFlyWithin
open Go.RowKit Go.Proofs.Ytahfbpmaeijgaaa.PFnExactFlyWithin Go.Proofs.YtahfbpmaeijgaaaW.PrintWords Go.Proofs.Ytahfbpmaeijgaaa.Opens
def ok99 (x : S99) : Prop := I64 x.f0 ∧ I64 x.f1 ∧ I64 x.f2 ∧ I64 x.f3 ∧ I64 x.f4 ∧ I64 x.f5
def Said : Prop := ∀ (l0 : List S99) (a1 : Int) (a2 : Int) (a3 : Int) (a4 : Int), (l0.length ≤ 9223372036854775807 ∧ ∀ x ∈ l0, ok99 x) → I64 a1 → I64 a2 → I64 a3 → I64 a4 → ∃ k, laws_FnExactFlyWithin.f k l0 a1 a2 a3 a4 = some true
end Go.Proofs.Ytahfbpmaeijgaaa.SayFnExactFlyWithin
