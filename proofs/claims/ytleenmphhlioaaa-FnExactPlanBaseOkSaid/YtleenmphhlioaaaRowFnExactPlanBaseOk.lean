/-
  The law FnExactPlanBaseOk answers true for every input: the row, out of the law's contract and the plain statement.
-/
import Derived.Test.YtleenmphhlioaaaRows
import Derived.Test.YtleenmphhlioaaaPureFnExactPlanBaseOk
import Derived.Test.YtleenmphhlioaaaSayFnExactPlanBaseOk
import Derived.WalkKit
import Derived.ProofKit
import Derived.OpenShut
import Derived.ShutString
import Derived.ChangeOld
import Derived.Below
import Derived.SizedLaws
namespace Go.Proofs.Ytleenmphhlioaaa.fnExactPlanBaseOk
open Go.ChangeShapes Go.WideShapes Go.ChangeAt Go.RowKit Go.Proofs.YtleenmphhlioaaaW.PrintWords Go.Proofs.Ytleenmphhlioaaa.Opens Go.Proofs.Ytleenmphhlioaaa.QFnExactPlanBaseOk Go.Proofs.Ytleenmphhlioaaa.SayFnExactPlanBaseOk
set_option linter.unusedVariables false
theorem own : ownKnob Try.prog.godebug = none := by kernel_rfl
theorem laidOut : laidOutB Try.prog = true := by kernel_rfl
set_option maxRecDepth 100000 in
theorem opens50 : Opens Try.prog 50 k50 ok50 := Opens.mono (Opens.iso (Opens.struct Try.underlying50 (by kernel_rfl) (OpensF.cons rfl (by kernel_rfl) (Opens.string Try.underlying9) (OpensF.cons rfl (by kernel_rfl) (Opens.int Try.underlying3) (OpensF.one rfl (by kernel_rfl) (Opens.int Try.underlying3)) (by decide)) (by decide))) (fun x : S50 => (x.f0, x.f1, x.f2)) (fun a => ⟨a.1, a.2.1, a.2.2⟩) (fun _ => rfl)) (fun _ h => h)
set_option maxRecDepth 100000 in
theorem opens52 : Opens Try.prog 52 k52 ok52 := Opens.mono (Opens.iso (Opens.struct Try.underlying52 (by kernel_rfl) (OpensF.cons rfl (by kernel_rfl) (Opens.string Try.underlying9) (OpensF.cons rfl (by kernel_rfl) (Opens.int Try.underlying3) (OpensF.one rfl (by kernel_rfl) (Opens.int Try.underlying3)) (by decide)) (by decide))) (fun x : S52 => (x.f0, x.f1, x.f2)) (fun a => ⟨a.1, a.2.1, a.2.2⟩) (fun _ => rfl)) (fun _ h => h)
set_option maxRecDepth 100000 in
theorem opens25 : Opens Try.prog 25 (Kd.pair (Kd.slice 50 k50) (Kd.slice 52 k52)) ok25 := Opens.mono (Opens.struct Try.underlying25 (by kernel_rfl) (OpensF.cons rfl (by kernel_rfl) (Opens.slice Try.underlying22 (by kernel_rfl) opens50) (OpensF.one rfl (by kernel_rfl) (Opens.slice Try.underlying23 (by kernel_rfl) opens52)) (by decide))) (fun _ h => h)
set_option maxRecDepth 100000 in
theorem arg25 {H : Type} {enc : TypeId × Value → H} {w : World} {r : Reach} {b0 : Nat} {base : Nat} {sp : Nat → Bool} {held : Bool} {v : Value} {x : DataW H} {p : List MemPlace} (hv : Value.okWide Try.prog w r b0 25 v) (hd : DataW.Trod enc Try.prog w base sp held 25 v x p) :
    ∃ (A0 : Option Addr) (c0 : Nat) (l0 : List S50) (A1 : Option Addr) (c1 : Nat) (l1 : List S52), v = .agg #[.slice A0 l0.length c0, .slice A1 l1.length c1] ∧ Kd.C k50 w A0 l0.length l0 ∧ l0.length ≤ c0 ∧ Kd.C k52 w A1 l1.length l1 ∧ l1.length ≤ c1 ∧ ((l0.length ≤ 9223372036854775807 ∧ ∀ y ∈ l0, ok50 y) ∧ (l1.length ≤ 9223372036854775807 ∧ ∀ y ∈ l1, ok52 y)) := by
  obtain ⟨⟨l0, l1⟩, cs, rfl, hK, hok⟩ := opens25.agg Try.underlying25 hv hd
  obtain ⟨_, _, rfl, ⟨A0, c0, rfl, hc0, hC0⟩, ⟨A1, c1, rfl, hc1, hC1⟩⟩ := hK
  obtain ⟨o0, o1⟩ := hok
  exact ⟨A0, c0, l0, A1, c1, l1, rfl, hC0, hc0, hC1, hc1, o0, o1⟩
set_option maxRecDepth 100000 in
theorem lifted (os : Os) (started : os.Started) (H : Type) (enc : TypeId × Value → H) :
    ReturnsInHanded {} Try.checked os 3 .any (Rows.fnExactPlanBaseOkSpec.pre6 enc Try.prog Try.f3 Rows.fnExactPlanBaseOkRow.domain false) (Rows.fnExactPlanBaseOkSpec.post enc Try.prog Try.f3 false true false false) := by
  refine returnsInHanded_of_change_sized (C := Try.checked) own started (by kernel_rfl) Try.func3
    (ChangeSpec.witness6 (enc := enc) (C := Try.checked) false ⟨#[], #[.agg #[.slice none 0 0, .slice none 0 0]], []⟩ 8 (by kernel_rfl) (by kernel_rfl) (by kernel_rfl) (by kernel_rfl)) ?_
  intro W base args ds gs before hval0 hW hcnd hsz0 _
  have hval : ∀ (j : Nat) t v, Try.f3.params[j]? = some t → args[j]? = some v → Value.okWide Try.prog W .any base t v := hval0
  have hW' := hW
  obtain ⟨p, q, hA0, hV, rfl, hfz, hnd⟩ := hW
  have hA : DataW.TrodAll enc Try.prog W 0 (fun _ => true) true Try.f3.params.toList args.toList ds p := hA0
  rw [Try.params3] at hA hval
  obtain ⟨v0, vs0, d0, ds0, p0, q0, hargs, rfl, rfl, h0, r0⟩ := trodAll_cons hA
  obtain ⟨rfl, rfl, rfl⟩ := trodAll_nil r0
  obtain rfl : args = #[v0] := by cases args; simp_all
  obtain ⟨rfl, rfl⟩ := trodVars_none hV
  have k0 := h0
  have lt0 : ∀ x ∈ p0, x.block < W.heap.size := by obtain ⟨m, hm⟩ := k0; exact DataW.trod_lt m _ _ _ hm
  obtain ⟨A0_0, c0_0, l0_0, A0_1, c0_1, l0_1, rfl, hC0_0, hc0_0, hC0_1, hc0_1, o0⟩ := arg25 (hval 0 25 v0 rfl rfl) h0
  clear hA0 hval0 hsz0
  obtain ⟨k, hk⟩ := Pure.FnExactPlanBaseOk l0_0 l0_1 o0
  refine (laws_FnExactPlanBaseOk.calls k _ _ l0_0 _ _ l0_1  true W hC0_0 hc0_0 hC0_1 hc0_1 hk).mono fun e W' ⟨he, bel0⟩ => ?_
  have bel : Below W.heap.size W W' := bel0
  subst he
  exact ⟨_, rfl, _, _, _, [], _, [], hW', trodAll_mk1 (shut_bool Try.underlying4 _), (trodAll_cons_mk (Below.trod laidOut (by kernel_rfl) (of_decide_eq_true (by kernel_rfl)) k0 bel lt0) trodAll_mk0), rfl, bel.frame _, fun h => by cases h⟩
theorem over : Rows.fnExactPlanBaseOkRow.holds Try.pinned (OpenSpec.ofChange Rows.fnExactPlanBaseOkSpec) :=
  OpenClaim.holds_of_wide 3 Try.f3 rfl rfl rfl rfl rfl rfl rfl ⟨rfl, rfl, rfl, rfl, rfl⟩ rfl rfl rfl rfl rfl (by kernel_rfl) Try.func3 (by kernel_rfl)
    (of_decide_eq_true (by kernel_rfl)) (by unfold Func.isWrapper; first | (rw [if_pos (by decide +kernel)]; kernel_rfl) | (rw [if_neg (by decide +kernel)]; exact ⟨rfl, rfl⟩))
    (fun os started H enc _ => lifted os started H enc)
theorem proved : Rows.FnExactPlanBaseOkSaid := over
end Go.Proofs.Ytleenmphhlioaaa.fnExactPlanBaseOk
namespace Go.Proofs.Ytleenmphhlioaaa
/-- The row, under a short name, for the claim. -/
theorem fnExactPlanBaseOk_holds : Rows.FnExactPlanBaseOkSaid := fnExactPlanBaseOk.proved
end Go.Proofs.Ytleenmphhlioaaa
