/-
  The law FnExactFlyKindOk answers true for every input: the row, out of the law's contract and the plain statement.
-/
import Derived.Test.YtahfbpmaeijgaaaRows
import Derived.Test.YtahfbpmaeijgaaaPureFnExactFlyKindOk
import Derived.Test.YtahfbpmaeijgaaaSayFnExactFlyKindOk
import Derived.WalkKit
import Derived.ProofKit
import Derived.OpenShut
import Derived.ShutString
import Derived.ChangeOld
import Derived.Below
import Derived.SizedLaws
namespace Go.Proofs.Ytahfbpmaeijgaaa.fnExactFlyKindOk
open Go.ChangeShapes Go.WideShapes Go.ChangeAt Go.RowKit Go.Proofs.YtahfbpmaeijgaaaW.PrintWords Go.Proofs.Ytahfbpmaeijgaaa.Opens Go.Proofs.Ytahfbpmaeijgaaa.PFnExactFlyKindOk Go.Proofs.Ytahfbpmaeijgaaa.SayFnExactFlyKindOk
set_option linter.unusedVariables false
theorem own : ownKnob Try.prog.godebug = none := by kernel_rfl
theorem laidOut : laidOutB Try.prog = true := by kernel_rfl
set_option maxRecDepth 100000 in
theorem opens24 : Opens Try.prog 24 (Kd.pair (Kd.int .i64) (Kd.int .i64)) ok24 := Opens.mono (Opens.struct Try.underlying24 (by kernel_rfl) (OpensF.cons rfl (by kernel_rfl) (Opens.int Try.underlying3) (OpensF.one rfl (by kernel_rfl) (Opens.int Try.underlying3)) (by decide))) (fun _ h => h)
set_option maxRecDepth 100000 in
theorem arg24 {H : Type} {enc : TypeId × Value → H} {w : World} {r : Reach} {b0 : Nat} {base : Nat} {sp : Nat → Bool} {held : Bool} {v : Value} {x : DataW H} {p : List MemPlace} (hv : Value.okWide Try.prog w r b0 24 v) (hd : DataW.Trod enc Try.prog w base sp held 24 v x p) :
    ∃ (a0 : Int) (a1 : Int), v = .agg #[.int .i64 a0, .int .i64 a1] ∧ (I64 a0 ∧ I64 a1) := by
  obtain ⟨⟨a0, a1⟩, cs, rfl, hK, hok⟩ := opens24.agg Try.underlying24 hv hd
  obtain ⟨_, _, rfl, rfl, rfl⟩ := hK
  obtain ⟨o0, o1⟩ := hok
  exact ⟨a0, a1, rfl, o0, o1⟩
set_option maxRecDepth 100000 in
theorem lifted (os : Os) (started : os.Started) (H : Type) (enc : TypeId × Value → H) :
    ReturnsInHanded {} Try.checked os 4 .any (Rows.fnExactFlyKindOkSpec.pre6 enc Try.prog Try.f4 Rows.fnExactFlyKindOkRow.domain false) (Rows.fnExactFlyKindOkSpec.post enc Try.prog Try.f4 false true false false) := by
  refine returnsInHanded_of_change_sized (C := Try.checked) own started (by kernel_rfl) Try.func4
    (ChangeSpec.witness6 (enc := enc) (C := Try.checked) false ⟨#[], #[.agg #[.int .i64 0, .int .i64 0]], []⟩ 8 (by kernel_rfl) (by kernel_rfl) (by kernel_rfl) (by kernel_rfl)) ?_
  intro W base args ds gs before hval0 hW hcnd hsz0 _
  have hval : ∀ (j : Nat) t v, Try.f4.params[j]? = some t → args[j]? = some v → Value.okWide Try.prog W .any base t v := hval0
  have hW' := hW
  obtain ⟨p, q, hA0, hV, rfl, hfz, hnd⟩ := hW
  have hA : DataW.TrodAll enc Try.prog W 0 (fun _ => true) true Try.f4.params.toList args.toList ds p := hA0
  rw [Try.params4] at hA hval
  obtain ⟨v0, vs0, d0, ds0, p0, q0, hargs, rfl, rfl, h0, r0⟩ := trodAll_cons hA
  obtain ⟨rfl, rfl, rfl⟩ := trodAll_nil r0
  obtain rfl : args = #[v0] := by cases args; simp_all
  obtain ⟨rfl, rfl⟩ := trodVars_none hV
  have k0 := h0
  have lt0 : ∀ x ∈ p0, x.block < W.heap.size := by obtain ⟨m, hm⟩ := k0; exact DataW.trod_lt m _ _ _ hm
  obtain ⟨a0_0, a0_1, rfl, o0⟩ := arg24 (hval 0 24 v0 rfl rfl) h0
  clear hA0 hval0 hsz0
  have hk := Pure.FnExactFlyKindOk a0_0 a0_1 o0
  refine (laws_FnExactFlyKindOk.calls a0_0 a0_1  true W hk).mono fun e W' ⟨he, bel0⟩ => ?_
  have bel : Below W.heap.size W W' := bel0
  subst he
  exact ⟨_, rfl, _, _, _, [], _, [], hW', trodAll_mk1 (shut_bool Try.underlying4 _), (trodAll_cons_mk (Below.trod laidOut (by kernel_rfl) (of_decide_eq_true (by kernel_rfl)) k0 bel lt0) trodAll_mk0), rfl, bel.frame _, fun h => by cases h⟩
theorem over : Rows.fnExactFlyKindOkRow.holds Try.pinned (OpenSpec.ofChange Rows.fnExactFlyKindOkSpec) :=
  OpenClaim.holds_of_wide 4 Try.f4 rfl rfl rfl rfl rfl rfl rfl ⟨rfl, rfl, rfl, rfl, rfl⟩ rfl rfl rfl rfl rfl (by kernel_rfl) Try.func4 (by kernel_rfl)
    (of_decide_eq_true (by kernel_rfl)) (by unfold Func.isWrapper; first | (rw [if_pos (by decide +kernel)]; kernel_rfl) | (rw [if_neg (by decide +kernel)]; exact ⟨rfl, rfl⟩))
    (fun os started H enc _ => lifted os started H enc)
theorem proved : Rows.FnExactFlyKindOkSaid := over
end Go.Proofs.Ytahfbpmaeijgaaa.fnExactFlyKindOk
namespace Go.Proofs.Ytahfbpmaeijgaaa
/-- The row, under a short name, for the claim. -/
theorem fnExactFlyKindOk_holds : Rows.FnExactFlyKindOkSaid := fnExactFlyKindOk.proved
end Go.Proofs.Ytahfbpmaeijgaaa
