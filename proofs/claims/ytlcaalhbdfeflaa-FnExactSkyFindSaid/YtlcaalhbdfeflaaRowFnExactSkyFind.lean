/-
  The law FnExactSkyFind answers true for every input: the row, out of the law's contract and the plain statement.
-/
import Derived.Test.YtlcaalhbdfeflaaRows
import Derived.Test.YtlcaalhbdfeflaaPureFnExactSkyFind
import Derived.Test.YtlcaalhbdfeflaaSayFnExactSkyFind
import Derived.WalkKit
import Derived.ProofKit
import Derived.OpenShut
import Derived.ShutString
import Derived.ChangeOld
import Derived.Below
import Derived.SizedLaws
namespace Go.Proofs.Ytlcaalhbdfeflaa.fnExactSkyFind
open Go.ChangeShapes Go.WideShapes Go.ChangeAt Go.RowKit Go.Proofs.YtlcaalhbdfeflaaW.PrintWords Go.Proofs.Ytlcaalhbdfeflaa.Opens Go.Proofs.Ytlcaalhbdfeflaa.QFnExactSkyFind Go.Proofs.Ytlcaalhbdfeflaa.SayFnExactSkyFind
set_option linter.unusedVariables false
theorem own : ownKnob Try.prog.godebug = none := by kernel_rfl
theorem laidOut : laidOutB Try.prog = true := by kernel_rfl
set_option maxRecDepth 100000 in
theorem opens68 : Opens Try.prog 68 k68 ok68 := Opens.mono (Opens.iso (Opens.struct Try.underlying68 (by kernel_rfl) (OpensF.cons rfl (by kernel_rfl) (Opens.int Try.underlying3) (OpensF.cons rfl (by kernel_rfl) (Opens.int Try.underlying3) (OpensF.one rfl (by kernel_rfl) (Opens.string Try.underlying9)) (by decide)) (by decide))) (fun x : S68 => (x.f0, x.f1, x.f2)) (fun a => ⟨a.1, a.2.1, a.2.2⟩) (fun _ => rfl)) (fun _ h => h)
set_option maxRecDepth 100000 in
theorem opens55 : Opens Try.prog 55 k55 ok55 := Opens.mono (Opens.iso (Opens.struct Try.underlying55 (by kernel_rfl) (OpensF.cons rfl (by kernel_rfl) (Opens.int Try.underlying3) (OpensF.cons rfl (by kernel_rfl) (Opens.int Try.underlying3) (OpensF.one rfl (by kernel_rfl) (Opens.slice Try.underlying53 (by kernel_rfl) opens68)) (by decide)) (by decide))) (fun x : S55 => (x.f0, x.f1, x.f2)) (fun a => ⟨a.1, a.2.1, a.2.2⟩) (fun _ => rfl)) (fun _ h => h)
set_option maxRecDepth 100000 in
theorem opens58 : Opens Try.prog 58 k58 ok58 := Opens.mono (Opens.iso (Opens.struct Try.underlying58 (by kernel_rfl) (OpensF.cons rfl (by kernel_rfl) (Opens.string Try.underlying9) (OpensF.cons rfl (by kernel_rfl) (Opens.string Try.underlying9) (OpensF.cons rfl (by kernel_rfl) (Opens.int Try.underlying3) (OpensF.one rfl (by kernel_rfl) (Opens.string Try.underlying9)) (by decide)) (by decide)) (by decide))) (fun x : S58 => (x.f0, x.f1, x.f2, x.f3)) (fun a => ⟨a.1, a.2.1, a.2.2.1, a.2.2.2⟩) (fun _ => rfl)) (fun _ h => h)
set_option maxRecDepth 100000 in
theorem opens25 : Opens Try.prog 25 (Kd.pair (Kd.slice 55 k55) (Kd.slice 58 k58)) ok25 := Opens.mono (Opens.struct Try.underlying25 (by kernel_rfl) (OpensF.cons rfl (by kernel_rfl) (Opens.slice Try.underlying22 (by kernel_rfl) opens55) (OpensF.one rfl (by kernel_rfl) (Opens.slice Try.underlying23 (by kernel_rfl) opens58)) (by decide))) (fun _ h => h)
set_option maxRecDepth 100000 in
theorem opens27 : Opens Try.prog 27 (Kd.pair (Kd.int .i64) (Kd.pair (Kd.int .i64) (Kd.int .i64))) ok27 := Opens.mono (Opens.struct Try.underlying27 (by kernel_rfl) (OpensF.cons rfl (by kernel_rfl) (Opens.int Try.underlying3) (OpensF.cons rfl (by kernel_rfl) (Opens.int Try.underlying3) (OpensF.one rfl (by kernel_rfl) (Opens.int Try.underlying3)) (by decide)) (by decide))) (fun _ h => h)
set_option maxRecDepth 100000 in
theorem arg25 {H : Type} {enc : TypeId × Value → H} {w : World} {r : Reach} {b0 : Nat} {base : Nat} {sp : Nat → Bool} {held : Bool} {v : Value} {x : DataW H} {p : List MemPlace} (hv : Value.okWide Try.prog w r b0 25 v) (hd : DataW.Trod enc Try.prog w base sp held 25 v x p) :
    ∃ (A0 : Option Addr) (c0 : Nat) (l0 : List S55) (A1 : Option Addr) (c1 : Nat) (l1 : List S58), v = .agg #[.slice A0 l0.length c0, .slice A1 l1.length c1] ∧ Kd.C k55 w A0 l0.length l0 ∧ l0.length ≤ c0 ∧ Kd.C k58 w A1 l1.length l1 ∧ l1.length ≤ c1 ∧ ((l0.length ≤ 9223372036854775807 ∧ ∀ y ∈ l0, ok55 y) ∧ (l1.length ≤ 9223372036854775807 ∧ ∀ y ∈ l1, ok58 y)) := by
  obtain ⟨⟨l0, l1⟩, cs, rfl, hK, hok⟩ := opens25.agg Try.underlying25 hv hd
  obtain ⟨_, _, rfl, ⟨A0, c0, rfl, hc0, hC0⟩, ⟨A1, c1, rfl, hc1, hC1⟩⟩ := hK
  obtain ⟨o0, o1⟩ := hok
  exact ⟨A0, c0, l0, A1, c1, l1, rfl, hC0, hc0, hC1, hc1, o0, o1⟩
set_option maxRecDepth 100000 in
theorem arg27 {H : Type} {enc : TypeId × Value → H} {w : World} {r : Reach} {b0 : Nat} {base : Nat} {sp : Nat → Bool} {held : Bool} {v : Value} {x : DataW H} {p : List MemPlace} (hv : Value.okWide Try.prog w r b0 27 v) (hd : DataW.Trod enc Try.prog w base sp held 27 v x p) :
    ∃ (a0 : Int) (a1 : Int) (a2 : Int), v = .agg #[.int .i64 a0, .int .i64 a1, .int .i64 a2] ∧ (I64 a0 ∧ I64 a1 ∧ I64 a2) := by
  obtain ⟨⟨a0, a1, a2⟩, cs, rfl, hK, hok⟩ := opens27.agg Try.underlying27 hv hd
  obtain ⟨_, _, rfl, rfl, ⟨_, _, rfl, rfl, rfl⟩⟩ := hK
  obtain ⟨o0, o1, o2⟩ := hok
  exact ⟨a0, a1, a2, rfl, o0, o1, o2⟩
set_option maxRecDepth 100000 in
theorem lifted (os : Os) (started : os.Started) (H : Type) (enc : TypeId × Value → H) :
    ReturnsInHanded {} Try.checked os 3 .any (Rows.fnExactSkyFindSpec.pre6 enc Try.prog Try.f3 Rows.fnExactSkyFindRow.domain false) (Rows.fnExactSkyFindSpec.post enc Try.prog Try.f3 false true false false) := by
  refine returnsInHanded_of_change_sized (C := Try.checked) own started (by kernel_rfl) Try.func3
    (ChangeSpec.witness6 (enc := enc) (C := Try.checked) false ⟨#[], #[.agg #[.slice none 0 0, .slice none 0 0], .agg #[.int .i64 0, .int .i64 0, .int .i64 0]], []⟩ 8 (by kernel_rfl) (by kernel_rfl) (by kernel_rfl) (by kernel_rfl)) ?_
  intro W base args ds gs before hval0 hW hcnd hsz0 _
  have hval : ∀ (j : Nat) t v, Try.f3.params[j]? = some t → args[j]? = some v → Value.okWide Try.prog W .any base t v := hval0
  have hW' := hW
  obtain ⟨p, q, hA0, hV, rfl, hfz, hnd⟩ := hW
  have hA : DataW.TrodAll enc Try.prog W 0 (fun _ => true) true Try.f3.params.toList args.toList ds p := hA0
  rw [Try.params3] at hA hval
  obtain ⟨v0, vs0, d0, ds0, p0, q0, hargs, rfl, rfl, h0, r0⟩ := trodAll_cons hA
  obtain ⟨v1, vs1, d1, ds1, p1, q1, rfl, rfl, rfl, h1, r1⟩ := trodAll_cons r0
  obtain ⟨rfl, rfl, rfl⟩ := trodAll_nil r1
  obtain rfl : args = #[v0, v1] := by cases args; simp_all
  obtain ⟨rfl, rfl⟩ := trodVars_none hV
  have k0 := h0
  have lt0 : ∀ x ∈ p0, x.block < W.heap.size := by obtain ⟨m, hm⟩ := k0; exact DataW.trod_lt m _ _ _ hm
  obtain ⟨A0_0, c0_0, l0_0, A0_1, c0_1, l0_1, rfl, hC0_0, hc0_0, hC0_1, hc0_1, o0⟩ := arg25 (hval 0 25 v0 rfl rfl) h0
  have k1 := h1
  have lt1 : ∀ x ∈ p1, x.block < W.heap.size := by obtain ⟨m, hm⟩ := k1; exact DataW.trod_lt m _ _ _ hm
  obtain ⟨a1_0, a1_1, a1_2, rfl, o1⟩ := arg27 (hval 1 27 v1 rfl rfl) h1
  clear hA0 hval0 hsz0
  obtain ⟨k, hk⟩ := Pure.FnExactSkyFind l0_0 l0_1 a1_0 a1_1 a1_2 o0 o1
  refine (laws_FnExactSkyFind.calls k _ _ l0_0 _ _ l0_1 a1_0 a1_1 a1_2  true W hC0_0 hc0_0 hC0_1 hc0_1 hk).mono fun e W' ⟨he, bel0⟩ => ?_
  have bel : Below W.heap.size W W' := bel0
  subst he
  exact ⟨_, rfl, _, _, _, [], _, [], hW', trodAll_mk1 (shut_bool Try.underlying4 _), (trodAll_cons_mk (Below.trod laidOut (by kernel_rfl) (of_decide_eq_true (by kernel_rfl)) k0 bel lt0) (trodAll_cons_mk (Below.trod laidOut (by kernel_rfl) (of_decide_eq_true (by kernel_rfl)) k1 bel lt1) trodAll_mk0)), rfl, bel.frame _, fun h => by cases h⟩
theorem over : Rows.fnExactSkyFindRow.holds Try.pinned (OpenSpec.ofChange Rows.fnExactSkyFindSpec) :=
  OpenClaim.holds_of_wide 3 Try.f3 rfl rfl rfl rfl rfl rfl rfl ⟨rfl, rfl, rfl, rfl, rfl⟩ rfl rfl rfl rfl rfl (by kernel_rfl) Try.func3 (by kernel_rfl)
    (of_decide_eq_true (by kernel_rfl)) (by unfold Func.isWrapper; first | (rw [if_pos (by decide +kernel)]; kernel_rfl) | (rw [if_neg (by decide +kernel)]; exact ⟨rfl, rfl⟩))
    (fun os started H enc _ => lifted os started H enc)
theorem proved : Rows.FnExactSkyFindSaid := over
end Go.Proofs.Ytlcaalhbdfeflaa.fnExactSkyFind
namespace Go.Proofs.Ytlcaalhbdfeflaa
/-- The row, under a short name, for the claim. -/
theorem fnExactSkyFind_holds : Rows.FnExactSkyFindSaid := fnExactSkyFind.proved
end Go.Proofs.Ytlcaalhbdfeflaa
