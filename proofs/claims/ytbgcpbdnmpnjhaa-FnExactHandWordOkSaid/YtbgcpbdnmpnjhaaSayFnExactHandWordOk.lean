/-
  What is asked of the law FnExactHandWordOk's printed function: over numbers and lists alone.
-/
import Derived.Test.YtbgcpbdnmpnjhaaQFnExactHandWordOkx12
import Derived.Test.YtbgcpbdnmpnjhaaOpens
namespace Go.Proofs.Ytbgcpbdnmpnjhaa.SayFnExactHandWordOk
open Go.RowKit Go.Proofs.Ytbgcpbdnmpnjhaa.QFnExactHandWordOk Go.Proofs.YtbgcpbdnmpnjhaaW.PrintWords Go.Proofs.Ytbgcpbdnmpnjhaa.Opens
def ok40 (x : S40) : Prop := x.f0.size ≤ 9223372036854775807 ∧ I64 x.f1 ∧ I64 x.f2 ∧ I64 x.f3 ∧ I64 x.f4
def ok59 (x : S59) : Prop := I64 x.f0 ∧ I64 x.f1 ∧ I64 x.f2 ∧ I64 x.f3 ∧ I64 x.f4 ∧ I64 x.f5
def ok25 (x : Int × ByteArray × ByteArray × ByteArray × Int × Int × Int × List S59) : Prop := I64 x.1 ∧ x.2.1.size ≤ 9223372036854775807 ∧ x.2.2.1.size ≤ 9223372036854775807 ∧ x.2.2.2.1.size ≤ 9223372036854775807 ∧ I64 x.2.2.2.2.1 ∧ I64 x.2.2.2.2.2.1 ∧ I64 x.2.2.2.2.2.2.1 ∧ (x.2.2.2.2.2.2.2.length ≤ 9223372036854775807 ∧ ∀ y ∈ x.2.2.2.2.2.2.2, ok59 y)
def Said : Prop := ∀ (l0 : List S40) (a1_0 : Int) (a1_1 : ByteArray) (a1_2 : ByteArray) (a1_3 : ByteArray) (a1_4 : Int) (a1_5 : Int) (a1_6 : Int) (l1_7 : List S59), (l0.length ≤ 9223372036854775807 ∧ ∀ y ∈ l0, ok40 y) → (I64 a1_0 ∧ a1_1.size ≤ 9223372036854775807 ∧ a1_2.size ≤ 9223372036854775807 ∧ a1_3.size ≤ 9223372036854775807 ∧ I64 a1_4 ∧ I64 a1_5 ∧ I64 a1_6 ∧ (l1_7.length ≤ 9223372036854775807 ∧ ∀ y ∈ l1_7, ok59 y)) → ∃ k, laws_FnExactHandWordOk.f k l0 a1_0 a1_1 a1_2 a1_3 a1_4 a1_5 a1_6 l1_7 = some true
end Go.Proofs.Ytbgcpbdnmpnjhaa.SayFnExactHandWordOk
