/-
  The law FnExactSkyNear over numbers: two numbers of 64 bits are less than two apart.
-/
import Derived.Test.YtahfbpmaeijgaaaSayFnExactSkyNear
import Derived.Test.YtahfbpmaeijgaaaKit
namespace Go.Proofs.Ytahfbpmaeijgaaa.Pure
open Go.RowKit Go.Proofs.Ytahfbpmaeijgaaa.PFnExactSkyNear Go.Proofs.YtahfbpmaeijgaaaW.PrintWords Go.Proofs.Ytahfbpmaeijgaaa.SayFnExactSkyNear Go.Proofs.Ytahfbpmaeijgaaa.Opens
set_option linter.unusedSimpArgs false
set_option linter.unusedVariables false
theorem near_close (a b : Int) (ha : I64 a) (hb : I64 b) : spec_l5Close.f 4 a b = some (decide (a = b ∨ a = b + 1 ∨ b = a + 1)) := by
  unfold I64 at ha hb
  have w1 : wrap64 (-1 + 1) = 0 := by unfold wrap64; omega
  have w2 : wrap64 (0 + 1) = 1 := by unfold wrap64; omega
  have w3 : wrap64 (1 + 1) = 2 := by unfold wrap64; omega
  have e0 : wrap64 (b + 0) = b := by unfold wrap64; omega
  unfold spec_l5Close.f
  simp only [spec_l5Close.l0, w1, w2, w3, e0]
  have h1 : (wrap64 (b + -1) = b - 1 ∧ b ≠ -9223372036854775808) ∨ (wrap64 (b + -1) = 9223372036854775807 ∧ b = -9223372036854775808) := by unfold wrap64; omega
  have h2 : (wrap64 (b + 1) = b + 1 ∧ b ≠ 9223372036854775807) ∨ (wrap64 (b + 1) = -9223372036854775808 ∧ b = 9223372036854775807) := by unfold wrap64; omega
  generalize wrap64 (b + -1) = c1 at h1 ⊢
  generalize wrap64 (b + 1) = c2 at h2 ⊢
  clear w1 w2 w3 e0
  simp only [Int.reduceNeg, Int.reduceLT, Int.reduceLE, ge_iff_le, gt_iff_lt, if_true, if_false, ↓reduceIte]
  repeat' split
  all_goals first | (exfalso; omega) | (congr 1; symm; apply decide_eq_true; omega) | (congr 1; symm; apply decide_eq_false; omega)
theorem near_closer (a b : Int) (ha : I64 a) (hb : I64 b) : impl_closer.f a b 2 = some (decide (a = b ∨ a = b + 1 ∨ b = a + 1)) := by
  unfold I64 at ha hb
  unfold impl_closer.f
  have key : ∀ x y : Int, I64 x → I64 y → x ≤ y → IntKind.u64.wrap (IntKind.u64.wrap y - IntKind.u64.wrap x) = y - x := by
    intro x y hx hy hxy
    unfold I64 at hx hy
    simp only [IntKind.wrap, IntKind.signed, IntKind.bits]
    simp
    omega
  by_cases h : a > b
  · rw [if_pos h, key b a hb ha (by omega)]
    congr 1
    apply decide_eq_decide.2
    omega
  · rw [if_neg h, key a b ha hb (by omega)]
    congr 1
    apply decide_eq_decide.2
    omega
theorem FnExactSkyNear : Said := by
  rintro a0 a1 a2 b0 b1 b2 ⟨ha0, ha1, ha2⟩ ⟨hb0, hb1, hb2⟩
  refine ⟨4, ?_⟩
  unfold laws_FnExactSkyNear.f laws_toSkyPlace.f spec_SkyNear.f impl_SkyNear.f
  simp only [Option.bind_some]
  rw [near_close a0 b0 ha0 hb0, near_close a1 b1 ha1 hb1, near_closer a0 b0 ha0 hb0, near_closer a1 b1 ha1 hb1]
  simp only [Option.bind_some]
  by_cases h : a2 = b2
  · rw [if_pos h]
    split <;> simp
  · rw [if_neg h]; simp
end Go.Proofs.Ytahfbpmaeijgaaa.Pure
