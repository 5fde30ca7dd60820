/-
  The law FnExactLapWhere answers true for every input: the row, out of the law's contract and the plain statement.
-/
import Derived.Test.YtbmplfpnhjhoiaaRows
import Derived.Test.YtbmplfpnhjhoiaaPureFnExactLapWhere
import Derived.Test.YtbmplfpnhjhoiaaSayFnExactLapWhere
import Derived.WalkKit
import Derived.ProofKit
import Derived.OpenShut
import Derived.ShutString
import Derived.ChangeOld
import Derived.Below
import Derived.SizedLaws
namespace Go.Proofs.Ytbmplfpnhjhoiaa.fnExactLapWhere
open Go.ChangeShapes Go.WideShapes Go.ChangeAt Go.RowKit Go.Proofs.YtbmplfpnhjhoiaaW.PrintWords Go.Proofs.Ytbmplfpnhjhoiaa.Opens Go.Proofs.Ytbmplfpnhjhoiaa.QFnExactLapWhere Go.Proofs.Ytbmplfpnhjhoiaa.SayFnExactLapWhere
set_option linter.unusedVariables false
theorem own : ownKnob Try.prog.godebug = none := by kernel_rfl
theorem laidOut : laidOutB Try.prog = true := by kernel_rfl
set_option maxRecDepth 100000 in
theorem opens35 : Opens Try.prog 35 (Kd.pair (Kd.int .i64) (Kd.int .i64)) ok35 := Opens.mono (Opens.struct Try.underlying35 (by kernel_rfl) (OpensF.cons rfl (by kernel_rfl) (Opens.int Try.underlying3) (OpensF.one rfl (by kernel_rfl) (Opens.int Try.underlying3)) (by decide))) (fun _ h => h)
set_option maxRecDepth 100000 in
theorem opens120 : Opens Try.prog 120 k120 ok120 := Opens.mono (Opens.iso (Opens.struct Try.underlying120 (by kernel_rfl) (OpensF.cons rfl (by kernel_rfl) (Opens.int Try.underlying3) (OpensF.cons rfl (by kernel_rfl) (Opens.int Try.underlying3) (OpensF.cons rfl (by kernel_rfl) (Opens.int Try.underlying3) (OpensF.cons rfl (by kernel_rfl) (Opens.int Try.underlying3) (OpensF.cons rfl (by kernel_rfl) (Opens.int Try.underlying3) (OpensF.one rfl (by kernel_rfl) (Opens.int Try.underlying3)) (by decide)) (by decide)) (by decide)) (by decide)) (by decide))) (fun x : S120 => (x.f0, x.f1, x.f2, x.f3, x.f4, x.f5)) (fun a => ⟨a.1, a.2.1, a.2.2.1, a.2.2.2.1, a.2.2.2.2.1, a.2.2.2.2.2⟩) (fun _ => rfl)) (fun _ h => h)
set_option maxRecDepth 100000 in
theorem opens38 : Opens Try.prog 38 (Kd.pair Kd.string (Kd.pair (Kd.pair (Kd.int .i64) (Kd.int .i64)) (Kd.pair (Kd.int .i64) (Kd.pair (Kd.int .i64) (Kd.pair (Kd.slice 120 k120) (Kd.slice 3 (Kd.int .i64))))))) ok38 := Opens.mono (Opens.struct Try.underlying38 (by kernel_rfl) (OpensF.cons rfl (by kernel_rfl) (Opens.string Try.underlying9) (OpensF.cons rfl (by kernel_rfl) opens35 (OpensF.cons rfl (by kernel_rfl) (Opens.int Try.underlying3) (OpensF.cons rfl (by kernel_rfl) (Opens.int Try.underlying3) (OpensF.cons rfl (by kernel_rfl) (Opens.slice Try.underlying23 (by kernel_rfl) opens120) (OpensF.one rfl (by kernel_rfl) (Opens.slice Try.underlying36 (by kernel_rfl) (Opens.int Try.underlying3))) (by decide)) (by decide)) (by decide)) (by decide)) (by decide))) (fun _ h => h)
set_option maxRecDepth 100000 in
theorem arg38 {H : Type} {enc : TypeId × Value → H} {w : World} {r : Reach} {b0 : Nat} {base : Nat} {sp : Nat → Bool} {held : Bool} {v : Value} {x : DataW H} {p : List MemPlace} (hv : Value.okWide Try.prog w r b0 38 v) (hd : DataW.Trod enc Try.prog w base sp held 38 v x p) :
    ∃ (a0 : ByteArray) (a1 : Int) (a2 : Int) (a3 : Int) (a4 : Int) (A5 : Option Addr) (c5 : Nat) (l5 : List S120) (A6 : Option Addr) (c6 : Nat) (l6 : List Int), v = .agg #[.string a0, .int .i64 a1, .int .i64 a2, .int .i64 a3, .int .i64 a4, .slice A5 l5.length c5, .slice A6 l6.length c6] ∧ Kd.C k120 w A5 l5.length l5 ∧ l5.length ≤ c5 ∧ Kd.C (Kd.int .i64) w A6 l6.length l6 ∧ l6.length ≤ c6 ∧ (a0.size ≤ 9223372036854775807 ∧ I64 a1 ∧ I64 a2 ∧ I64 a3 ∧ I64 a4 ∧ (l5.length ≤ 9223372036854775807 ∧ ∀ y ∈ l5, ok120 y) ∧ (l6.length ≤ 9223372036854775807 ∧ ∀ y ∈ l6, I64 y)) := by
  obtain ⟨⟨a0, ⟨a1, a2⟩, a3, a4, l5, l6⟩, cs, rfl, hK, hok⟩ := opens38.agg Try.underlying38 hv hd
  obtain ⟨_, _, rfl, rfl, ⟨_, _, rfl, ⟨_, _, rfl, rfl, rfl⟩, ⟨_, _, rfl, rfl, ⟨_, _, rfl, rfl, ⟨_, _, rfl, ⟨A5, c5, rfl, hc5, hC5⟩, ⟨A6, c6, rfl, hc6, hC6⟩⟩⟩⟩⟩⟩ := hK
  obtain ⟨o0, ⟨o1, o2⟩, o3, o4, o5, o6⟩ := hok
  exact ⟨a0, a1, a2, a3, a4, A5, c5, l5, A6, c6, l6, rfl, hC5, hc5, hC6, hc6, o0, o1, o2, o3, o4, o5, o6⟩
set_option maxRecDepth 100000 in
theorem lifted (os : Os) (started : os.Started) (H : Type) (enc : TypeId × Value → H) :
    ReturnsInHanded {} Try.checked os 4 .any (Rows.fnExactLapWhereSpec.pre6 enc Try.prog Try.f4 Rows.fnExactLapWhereRow.domain false) (Rows.fnExactLapWhereSpec.post enc Try.prog Try.f4 false true false false) := by
  refine returnsInHanded_of_change_sized (C := Try.checked) own started (by kernel_rfl) Try.func4
    (ChangeSpec.witness6 (enc := enc) (C := Try.checked) false ⟨#[], #[.agg #[.string ByteArray.empty, .int .i64 0, .int .i64 0, .int .i64 0, .int .i64 0, .slice none 0 0, .slice none 0 0]], []⟩ 8 (by kernel_rfl) (by kernel_rfl) (by kernel_rfl) (by kernel_rfl)) ?_
  intro W base args ds gs before hval0 hW hcnd hsz0 _
  have hval : ∀ (j : Nat) t v, Try.f4.params[j]? = some t → args[j]? = some v → Value.okWide Try.prog W .any base t v := hval0
  have hW' := hW
  obtain ⟨p, q, hA0, hV, rfl, hfz, hnd⟩ := hW
  have hA : DataW.TrodAll enc Try.prog W 0 (fun _ => true) true Try.f4.params.toList args.toList ds p := hA0
  rw [Try.params4] at hA hval
  obtain ⟨v0, vs0, d0, ds0, p0, q0, hargs, rfl, rfl, h0, r0⟩ := trodAll_cons hA
  obtain ⟨rfl, rfl, rfl⟩ := trodAll_nil r0
  obtain rfl : args = #[v0] := by cases args; simp_all
  obtain ⟨rfl, rfl⟩ := trodVars_none hV
  have k0 := h0
  have lt0 : ∀ x ∈ p0, x.block < W.heap.size := by obtain ⟨m, hm⟩ := k0; exact DataW.trod_lt m _ _ _ hm
  obtain ⟨a0_0, a0_1, a0_2, a0_3, a0_4, A0_5, c0_5, l0_5, A0_6, c0_6, l0_6, rfl, hC0_5, hc0_5, hC0_6, hc0_6, o0⟩ := arg38 (hval 0 38 v0 rfl rfl) h0
  clear hA0 hval0 hsz0
  obtain ⟨k, hk⟩ := Pure.FnExactLapWhere a0_0 a0_1 a0_2 a0_3 a0_4 l0_5 l0_6 o0
  refine (laws_FnExactLapWhere.calls k a0_0 a0_1 a0_2 a0_3 a0_4 _ _ l0_5 _ _ l0_6  true W hC0_5 hc0_5 hC0_6 hc0_6 hk).mono fun e W' ⟨he, bel0⟩ => ?_
  have bel : Below W.heap.size W W' := bel0
  subst he
  exact ⟨_, rfl, _, _, _, [], _, [], hW', trodAll_mk1 (shut_bool Try.underlying4 _), (trodAll_cons_mk (Below.trod laidOut (by kernel_rfl) (of_decide_eq_true (by kernel_rfl)) k0 bel lt0) trodAll_mk0), rfl, bel.frame _, fun h => by cases h⟩
theorem over : Rows.fnExactLapWhereRow.holds Try.pinned (OpenSpec.ofChange Rows.fnExactLapWhereSpec) :=
  OpenClaim.holds_of_wide 4 Try.f4 rfl rfl rfl rfl rfl rfl rfl ⟨rfl, rfl, rfl, rfl, rfl⟩ rfl rfl rfl rfl rfl (by kernel_rfl) Try.func4 (by kernel_rfl)
    (of_decide_eq_true (by kernel_rfl)) (by unfold Func.isWrapper; first | (rw [if_pos (by decide +kernel)]; kernel_rfl) | (rw [if_neg (by decide +kernel)]; exact ⟨rfl, rfl⟩))
    (fun os started H enc _ => lifted os started H enc)
theorem proved : Rows.FnExactLapWhereSaid := over
end Go.Proofs.Ytbmplfpnhjhoiaa.fnExactLapWhere
namespace Go.Proofs.Ytbmplfpnhjhoiaa
/-- The row, under a short name, for the claim. -/
theorem fnExactLapWhere_holds : Rows.FnExactLapWhereSaid := fnExactLapWhere.proved
end Go.Proofs.Ytbmplfpnhjhoiaa
