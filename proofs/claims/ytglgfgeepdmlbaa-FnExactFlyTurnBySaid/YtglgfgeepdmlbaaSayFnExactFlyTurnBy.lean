/-
  What is asked of the law FnExactFlyTurnBy's printed function: over numbers and lists alone.
-/
import Derived.Test.YtglgfgeepdmlbaaQFnExactFlyTurnByx26
import Derived.Test.YtglgfgeepdmlbaaOpens
namespace Go.Proofs.Ytglgfgeepdmlbaa.SayFnExactFlyTurnBy
open Go.RowKit Go.Proofs.Ytglgfgeepdmlbaa.QFnExactFlyTurnBy Go.Proofs.YtglgfgeepdmlbaaW.PrintWords Go.Proofs.Ytglgfgeepdmlbaa.Opens
def ok23 (x : Int × Int) : Prop := I64 x.1 ∧ I64 x.2
def ok60 (x : S60) : Prop := I64 x.f0 ∧ I64 x.f1 ∧ I64 x.f2 ∧ I64 x.f3 ∧ I64 x.f4 ∧ I64 x.f5 ∧ Any x.f6
def ok26 (x : (Int × Int) × List S60 × Int × Int) : Prop := ok23 x.1 ∧ (x.2.1.length ≤ 9223372036854775807 ∧ ∀ y ∈ x.2.1, ok60 y) ∧ I64 x.2.2.1 ∧ I64 x.2.2.2
def Said : Prop := ∀ (a0_0 : Int) (a0_1 : Int) (l0_2 : List S60) (a0_3 : Int) (a0_4 : Int) (a1_0 : Int) (a1_1 : Int) (l1_2 : List S60) (a1_3 : Int) (a1_4 : Int) (a2 : Int), (I64 a0_0 ∧ I64 a0_1 ∧ (l0_2.length ≤ 9223372036854775807 ∧ ∀ y ∈ l0_2, ok60 y) ∧ I64 a0_3 ∧ I64 a0_4) → (I64 a1_0 ∧ I64 a1_1 ∧ (l1_2.length ≤ 9223372036854775807 ∧ ∀ y ∈ l1_2, ok60 y) ∧ I64 a1_3 ∧ I64 a1_4) → I64 a2 → ∃ k, laws_FnExactFlyTurnBy.f k a0_0 a0_1 l0_2 a0_3 a0_4 a1_0 a1_1 l1_2 a1_3 a1_4 a2 = some true
end Go.Proofs.Ytglgfgeepdmlbaa.SayFnExactFlyTurnBy
