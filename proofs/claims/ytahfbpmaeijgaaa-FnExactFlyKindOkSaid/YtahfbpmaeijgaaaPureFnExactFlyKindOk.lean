/-
  The law FnExactFlyKindOk over numbers: both sides tell 1 <= Quick <= Slow <= 50.
-/
import Derived.Test.YtahfbpmaeijgaaaSayFnExactFlyKindOk
import Derived.Test.YtahfbpmaeijgaaaKit
namespace Go.Proofs.Ytahfbpmaeijgaaa.Pure
open Go.RowKit Go.Proofs.Ytahfbpmaeijgaaa.PFnExactFlyKindOk Go.Proofs.YtahfbpmaeijgaaaW.PrintWords Go.Proofs.Ytahfbpmaeijgaaa.SayFnExactFlyKindOk Go.Proofs.Ytahfbpmaeijgaaa.Opens
theorem FnExactFlyKindOk : Said := by
  intro a0 a1 h
  unfold laws_FnExactFlyKindOk.f laws_toFlyKind.f spec_FlyKindOk.f impl_FlyKindOk.f spec_l21In.f
  simp only [Option.bind_some]
  by_cases h1 : 1 ≤ a0 <;> by_cases h2 : a0 ≤ a1 <;> simp [h1, h2]
end Go.Proofs.Ytahfbpmaeijgaaa.Pure
