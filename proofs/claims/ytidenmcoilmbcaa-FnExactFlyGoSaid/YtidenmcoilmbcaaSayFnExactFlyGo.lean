/-
  What is asked of the law FnExactFlyGo's printed function: over numbers and lists alone.
-/
import Derived.Test.YtidenmcoilmbcaaQFnExactFlyGox19
import Derived.Test.YtidenmcoilmbcaaOpens
namespace Go.Proofs.Ytidenmcoilmbcaa.SayFnExactFlyGo
open Go.RowKit Go.Proofs.Ytidenmcoilmbcaa.QFnExactFlyGo Go.Proofs.YtidenmcoilmbcaaW.PrintWords Go.Proofs.Ytidenmcoilmbcaa.Opens
def ok23 (x : Int × Int) : Prop := I64 x.1 ∧ I64 x.2
def ok104 (x : S104) : Prop := I64 x.f0 ∧ I64 x.f1 ∧ I64 x.f2 ∧ I64 x.f3 ∧ I64 x.f4 ∧ I64 x.f5 ∧ Any x.f6
def ok26 (x : (Int × Int) × List S104 × Int × Int) : Prop := ok23 x.1 ∧ (x.2.1.length ≤ 9223372036854775807 ∧ ∀ y ∈ x.2.1, ok104 y) ∧ I64 x.2.2.1 ∧ I64 x.2.2.2
def Said : Prop := ∀ (a0_0 : Int) (a0_1 : Int) (l0_2 : List S104) (a0_3 : Int) (a0_4 : Int) (l1 : List Int) (l2 : List Int), (I64 a0_0 ∧ I64 a0_1 ∧ (l0_2.length ≤ 9223372036854775807 ∧ ∀ y ∈ l0_2, ok104 y) ∧ I64 a0_3 ∧ I64 a0_4) → (l1.length ≤ 9223372036854775807 ∧ ∀ y ∈ l1, I64 y) → (l2.length ≤ 9223372036854775807 ∧ ∀ y ∈ l2, I64 y) → ∃ k, laws_FnExactFlyGo.f k a0_0 a0_1 l0_2 a0_3 a0_4 l1 l2 = some true
end Go.Proofs.Ytidenmcoilmbcaa.SayFnExactFlyGo
