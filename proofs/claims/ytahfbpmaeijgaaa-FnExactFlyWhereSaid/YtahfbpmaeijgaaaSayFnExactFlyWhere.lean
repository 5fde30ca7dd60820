/-
  What is asked of the law FnExactFlyWhere's printed function: over numbers and lists alone.
-/
import Derived.Test.YtahfbpmaeijgaaaPFnExactFlyWherex1
import Derived.Test.YtahfbpmaeijgaaaOpens
namespace Go.Proofs.Ytahfbpmaeijgaaa.SayFnExactFlyWhere
open Go.RowKit Go.Proofs.Ytahfbpmaeijgaaa.PFnExactFlyWhere Go.Proofs.YtahfbpmaeijgaaaW.PrintWords Go.Proofs.Ytahfbpmaeijgaaa.Opens

def Said : Prop := ∀ (l0 : List Int) (a1 : Int), (l0.length ≤ 9223372036854775807 ∧ ∀ x ∈ l0, I64 x) → I64 a1 → ∃ k, laws_FnExactFlyWhere.f k l0 a1 = some true
end Go.Proofs.Ytahfbpmaeijgaaa.SayFnExactFlyWhere
