/-
  The law FnExactSkyAlong answers true for every input: the row, out of the law's contract and the plain statement.
-/
import Derived.Test.YtkdhfgonjipbbaaRows
import Derived.Test.YtkdhfgonjipbbaaPureFnExactSkyAlong
import Derived.Test.YtkdhfgonjipbbaaSayFnExactSkyAlong
import Derived.WalkKit
import Derived.ProofKit
import Derived.OpenShut
import Derived.ShutString
import Derived.ChangeOld
import Derived.Below
import Derived.SizedLaws
namespace Go.Proofs.Ytkdhfgonjipbbaa.fnExactSkyAlong
open Go.ChangeShapes Go.WideShapes Go.ChangeAt Go.RowKit Go.Proofs.YtkdhfgonjipbbaaW.PrintWords Go.Proofs.Ytkdhfgonjipbbaa.Opens Go.Proofs.Ytkdhfgonjipbbaa.QFnExactSkyAlong Go.Proofs.Ytkdhfgonjipbbaa.SayFnExactSkyAlong
set_option linter.unusedVariables false
theorem own : ownKnob Try.prog.godebug = none := by kernel_rfl
theorem laidOut : laidOutB Try.prog = true := by kernel_rfl
set_option maxRecDepth 100000 in
theorem opens74 : Opens Try.prog 74 k74 ok74 := Opens.mono (Opens.iso (Opens.struct Try.underlying74 (by kernel_rfl) (OpensF.cons rfl (by kernel_rfl) (Opens.int Try.underlying3) (OpensF.cons rfl (by kernel_rfl) (Opens.int Try.underlying3) (OpensF.one rfl (by kernel_rfl) (Opens.string Try.underlying9)) (by decide)) (by decide))) (fun x : S74 => (x.f0, x.f1, x.f2)) (fun a => ⟨a.1, a.2.1, a.2.2⟩) (fun _ => rfl)) (fun _ h => h)
set_option maxRecDepth 100000 in
theorem opens56 : Opens Try.prog 56 k56 ok56 := Opens.mono (Opens.iso (Opens.struct Try.underlying56 (by kernel_rfl) (OpensF.cons rfl (by kernel_rfl) (Opens.int Try.underlying3) (OpensF.cons rfl (by kernel_rfl) (Opens.int Try.underlying3) (OpensF.one rfl (by kernel_rfl) (Opens.slice Try.underlying54 (by kernel_rfl) opens74)) (by decide)) (by decide))) (fun x : S56 => (x.f0, x.f1, x.f2)) (fun a => ⟨a.1, a.2.1, a.2.2⟩) (fun _ => rfl)) (fun _ h => h)
set_option maxRecDepth 100000 in
theorem opens58 : Opens Try.prog 58 k58 ok58 := Opens.mono (Opens.iso (Opens.struct Try.underlying58 (by kernel_rfl) (OpensF.cons rfl (by kernel_rfl) (Opens.string Try.underlying9) (OpensF.cons rfl (by kernel_rfl) (Opens.string Try.underlying9) (OpensF.cons rfl (by kernel_rfl) (Opens.int Try.underlying3) (OpensF.one rfl (by kernel_rfl) (Opens.string Try.underlying9)) (by decide)) (by decide)) (by decide))) (fun x : S58 => (x.f0, x.f1, x.f2, x.f3)) (fun a => ⟨a.1, a.2.1, a.2.2.1, a.2.2.2⟩) (fun _ => rfl)) (fun _ h => h)
set_option maxRecDepth 100000 in
theorem opens25 : Opens Try.prog 25 (Kd.pair (Kd.slice 56 k56) (Kd.slice 58 k58)) ok25 := Opens.mono (Opens.struct Try.underlying25 (by kernel_rfl) (OpensF.cons rfl (by kernel_rfl) (Opens.slice Try.underlying22 (by kernel_rfl) opens56) (OpensF.one rfl (by kernel_rfl) (Opens.slice Try.underlying23 (by kernel_rfl) opens58)) (by decide))) (fun _ h => h)
set_option maxRecDepth 100000 in
theorem arg25 {H : Type} {enc : TypeId × Value → H} {w : World} {r : Reach} {b0 : Nat} {base : Nat} {sp : Nat → Bool} {held : Bool} {v : Value} {x : DataW H} {p : List MemPlace} (hv : Value.okWide Try.prog w r b0 25 v) (hd : DataW.Trod enc Try.prog w base sp held 25 v x p) :
    ∃ (A0 : Option Addr) (c0 : Nat) (l0 : List S56) (A1 : Option Addr) (c1 : Nat) (l1 : List S58), v = .agg #[.slice A0 l0.length c0, .slice A1 l1.length c1] ∧ Kd.C k56 w A0 l0.length l0 ∧ l0.length ≤ c0 ∧ Kd.C k58 w A1 l1.length l1 ∧ l1.length ≤ c1 ∧ ((l0.length ≤ 9223372036854775807 ∧ ∀ y ∈ l0, ok56 y) ∧ (l1.length ≤ 9223372036854775807 ∧ ∀ y ∈ l1, ok58 y)) := by
  obtain ⟨⟨l0, l1⟩, cs, rfl, hK, hok⟩ := opens25.agg Try.underlying25 hv hd
  obtain ⟨_, _, rfl, ⟨A0, c0, rfl, hc0, hC0⟩, ⟨A1, c1, rfl, hc1, hC1⟩⟩ := hK
  obtain ⟨o0, o1⟩ := hok
  exact ⟨A0, c0, l0, A1, c1, l1, rfl, hC0, hc0, hC1, hc1, o0, o1⟩
set_option maxRecDepth 100000 in
theorem lifted (os : Os) (started : os.Started) (H : Type) (enc : TypeId × Value → H) :
    ReturnsInHanded {} Try.checked os 3 .any (Rows.fnExactSkyAlongSpec.pre6 enc Try.prog Try.f3 Rows.fnExactSkyAlongRow.domain false) (Rows.fnExactSkyAlongSpec.post enc Try.prog Try.f3 false true false false) := by
  refine returnsInHanded_of_change_sized (C := Try.checked) own started (by kernel_rfl) Try.func3
    (ChangeSpec.witness6 (enc := enc) (C := Try.checked) false ⟨#[], #[.agg #[.slice none 0 0, .slice none 0 0], .string ByteArray.empty, .string ByteArray.empty], []⟩ 8 (by kernel_rfl) (by kernel_rfl) (by kernel_rfl) (by kernel_rfl)) ?_
  intro W base args ds gs before hval0 hW hcnd hsz0 _
  have hval : ∀ (j : Nat) t v, Try.f3.params[j]? = some t → args[j]? = some v → Value.okWide Try.prog W .any base t v := hval0
  have hW' := hW
  obtain ⟨p, q, hA0, hV, rfl, hfz, hnd⟩ := hW
  have hA : DataW.TrodAll enc Try.prog W 0 (fun _ => true) true Try.f3.params.toList args.toList ds p := hA0
  rw [Try.params3] at hA hval
  obtain ⟨v0, vs0, d0, ds0, p0, q0, hargs, rfl, rfl, h0, r0⟩ := trodAll_cons hA
  obtain ⟨v1, vs1, d1, ds1, p1, q1, rfl, rfl, rfl, h1, r1⟩ := trodAll_cons r0
  obtain ⟨v2, vs2, d2, ds2, p2, q2, rfl, rfl, rfl, h2, r2⟩ := trodAll_cons r1
  obtain ⟨rfl, rfl, rfl⟩ := trodAll_nil r2
  obtain rfl : args = #[v0, v1, v2] := by cases args; simp_all
  obtain ⟨rfl, rfl⟩ := trodVars_none hV
  have k0 := h0
  have lt0 : ∀ x ∈ p0, x.block < W.heap.size := by obtain ⟨m, hm⟩ := k0; exact DataW.trod_lt m _ _ _ hm
  obtain ⟨A0_0, c0_0, l0_0, A0_1, c0_1, l0_1, rfl, hC0_0, hc0_0, hC0_1, hc0_1, o0⟩ := arg25 (hval 0 25 v0 rfl rfl) h0
  have k1 := h1
  have lt1 : ∀ x ∈ p1, x.block < W.heap.size := by obtain ⟨m, hm⟩ := k1; exact DataW.trod_lt m _ _ _ hm
  obtain ⟨a1, rfl, o1⟩ := arg_string Try.underlying9 (hval 1 9 v1 rfl rfl) h1
  have k2 := h2
  have lt2 : ∀ x ∈ p2, x.block < W.heap.size := by obtain ⟨m, hm⟩ := k2; exact DataW.trod_lt m _ _ _ hm
  obtain ⟨a2, rfl, o2⟩ := arg_string Try.underlying9 (hval 2 9 v2 rfl rfl) h2
  clear hA0 hval0 hsz0
  obtain ⟨k, hk⟩ := Pure.FnExactSkyAlong l0_0 l0_1 a1 a2 o0 o1 o2
  refine (laws_FnExactSkyAlong.calls k _ _ l0_0 _ _ l0_1 a1 a2  true W hC0_0 hc0_0 hC0_1 hc0_1 hk).mono fun e W' ⟨he, bel0⟩ => ?_
  have bel : Below W.heap.size W W' := bel0
  subst he
  exact ⟨_, rfl, _, _, _, [], _, [], hW', trodAll_mk1 (shut_bool Try.underlying4 _), (trodAll_cons_mk (Below.trod laidOut (by kernel_rfl) (of_decide_eq_true (by kernel_rfl)) k0 bel lt0) (trodAll_cons_mk (Below.trod laidOut (by kernel_rfl) (of_decide_eq_true (by kernel_rfl)) k1 bel lt1) (trodAll_cons_mk (Below.trod laidOut (by kernel_rfl) (of_decide_eq_true (by kernel_rfl)) k2 bel lt2) trodAll_mk0))), rfl, bel.frame _, fun h => by cases h⟩
theorem over : Rows.fnExactSkyAlongRow.holds Try.pinned (OpenSpec.ofChange Rows.fnExactSkyAlongSpec) :=
  OpenClaim.holds_of_wide 3 Try.f3 rfl rfl rfl rfl rfl rfl rfl ⟨rfl, rfl, rfl, rfl, rfl⟩ rfl rfl rfl rfl rfl (by kernel_rfl) Try.func3 (by kernel_rfl)
    (of_decide_eq_true (by kernel_rfl)) (by unfold Func.isWrapper; first | (rw [if_pos (by decide +kernel)]; kernel_rfl) | (rw [if_neg (by decide +kernel)]; exact ⟨rfl, rfl⟩))
    (fun os started H enc _ => lifted os started H enc)
theorem proved : Rows.FnExactSkyAlongSaid := over
end Go.Proofs.Ytkdhfgonjipbbaa.fnExactSkyAlong
namespace Go.Proofs.Ytkdhfgonjipbbaa
/-- The row, under a short name, for the claim. -/
theorem fnExactSkyAlong_holds : Rows.FnExactSkyAlongSaid := fnExactSkyAlong.proved
end Go.Proofs.Ytkdhfgonjipbbaa
