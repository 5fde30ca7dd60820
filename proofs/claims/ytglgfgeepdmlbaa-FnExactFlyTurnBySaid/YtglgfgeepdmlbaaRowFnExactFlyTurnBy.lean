/-
  The law FnExactFlyTurnBy answers true for every input: the row, out of the law's contract and the plain statement.
-/
import Derived.Test.YtglgfgeepdmlbaaRows
import Derived.Test.YtglgfgeepdmlbaaPureFnExactFlyTurnBy
import Derived.Test.YtglgfgeepdmlbaaSayFnExactFlyTurnBy
import Derived.WalkKit
import Derived.ProofKit
import Derived.OpenShut
import Derived.ShutString
import Derived.ChangeOld
import Derived.Below
import Derived.SizedLaws
namespace Go.Proofs.Ytglgfgeepdmlbaa.fnExactFlyTurnBy
open Go.ChangeShapes Go.WideShapes Go.ChangeAt Go.RowKit Go.Proofs.YtglgfgeepdmlbaaW.PrintWords Go.Proofs.Ytglgfgeepdmlbaa.Opens Go.Proofs.Ytglgfgeepdmlbaa.QFnExactFlyTurnBy Go.Proofs.Ytglgfgeepdmlbaa.SayFnExactFlyTurnBy
set_option linter.unusedVariables false
theorem own : ownKnob Try.prog.godebug = none := by kernel_rfl
theorem laidOut : laidOutB Try.prog = true := by kernel_rfl
set_option maxRecDepth 100000 in
theorem opens23 : Opens Try.prog 23 (Kd.pair (Kd.int .i64) (Kd.int .i64)) ok23 := Opens.mono (Opens.struct Try.underlying23 (by kernel_rfl) (OpensF.cons rfl (by kernel_rfl) (Opens.int Try.underlying3) (OpensF.one rfl (by kernel_rfl) (Opens.int Try.underlying3)) (by decide))) (fun _ h => h)
set_option maxRecDepth 100000 in
theorem opens60 : Opens Try.prog 60 k60 ok60 := Opens.mono (Opens.iso (Opens.struct Try.underlying60 (by kernel_rfl) (OpensF.cons rfl (by kernel_rfl) (Opens.int Try.underlying3) (OpensF.cons rfl (by kernel_rfl) (Opens.int Try.underlying3) (OpensF.cons rfl (by kernel_rfl) (Opens.int Try.underlying3) (OpensF.cons rfl (by kernel_rfl) (Opens.int Try.underlying3) (OpensF.cons rfl (by kernel_rfl) (Opens.int Try.underlying3) (OpensF.cons rfl (by kernel_rfl) (Opens.int Try.underlying3) (OpensF.one rfl (by kernel_rfl) (Opens.bool Try.underlying4)) (by decide)) (by decide)) (by decide)) (by decide)) (by decide)) (by decide))) (fun x : S60 => (x.f0, x.f1, x.f2, x.f3, x.f4, x.f5, x.f6)) (fun a => ⟨a.1, a.2.1, a.2.2.1, a.2.2.2.1, a.2.2.2.2.1, a.2.2.2.2.2.1, a.2.2.2.2.2.2⟩) (fun _ => rfl)) (fun _ h => h)
set_option maxRecDepth 100000 in
theorem opens26 : Opens Try.prog 26 (Kd.pair (Kd.pair (Kd.int .i64) (Kd.int .i64)) (Kd.pair (Kd.slice 60 k60) (Kd.pair (Kd.int .i64) (Kd.int .i64)))) ok26 := Opens.mono (Opens.struct Try.underlying26 (by kernel_rfl) (OpensF.cons rfl (by kernel_rfl) opens23 (OpensF.cons rfl (by kernel_rfl) (Opens.slice Try.underlying24 (by kernel_rfl) opens60) (OpensF.cons rfl (by kernel_rfl) (Opens.int Try.underlying3) (OpensF.one rfl (by kernel_rfl) (Opens.int Try.underlying3)) (by decide)) (by decide)) (by decide))) (fun _ h => h)
set_option maxRecDepth 100000 in
theorem arg26 {H : Type} {enc : TypeId × Value → H} {w : World} {r : Reach} {b0 : Nat} {base : Nat} {sp : Nat → Bool} {held : Bool} {v : Value} {x : DataW H} {p : List MemPlace} (hv : Value.okWide Try.prog w r b0 26 v) (hd : DataW.Trod enc Try.prog w base sp held 26 v x p) :
    ∃ (a0 : Int) (a1 : Int) (A2 : Option Addr) (c2 : Nat) (l2 : List S60) (a3 : Int) (a4 : Int), v = .agg #[.int .i64 a0, .int .i64 a1, .slice A2 l2.length c2, .int .i64 a3, .int .i64 a4] ∧ Kd.C k60 w A2 l2.length l2 ∧ l2.length ≤ c2 ∧ (I64 a0 ∧ I64 a1 ∧ (l2.length ≤ 9223372036854775807 ∧ ∀ y ∈ l2, ok60 y) ∧ I64 a3 ∧ I64 a4) := by
  obtain ⟨⟨⟨a0, a1⟩, l2, a3, a4⟩, cs, rfl, hK, hok⟩ := opens26.agg Try.underlying26 hv hd
  obtain ⟨_, _, rfl, ⟨_, _, rfl, rfl, rfl⟩, ⟨_, _, rfl, ⟨A2, c2, rfl, hc2, hC2⟩, ⟨_, _, rfl, rfl, rfl⟩⟩⟩ := hK
  obtain ⟨⟨o0, o1⟩, o2, o3, o4⟩ := hok
  exact ⟨a0, a1, A2, c2, l2, a3, a4, rfl, hC2, hc2, o0, o1, o2, o3, o4⟩
set_option maxRecDepth 100000 in
theorem lifted (os : Os) (started : os.Started) (H : Type) (enc : TypeId × Value → H) :
    ReturnsInHanded {} Try.checked os 3 .any (Rows.fnExactFlyTurnBySpec.pre6 enc Try.prog Try.f3 Rows.fnExactFlyTurnByRow.domain false) (Rows.fnExactFlyTurnBySpec.post enc Try.prog Try.f3 false true false false) := by
  refine returnsInHanded_of_change_sized (C := Try.checked) own started (by kernel_rfl) Try.func3
    (ChangeSpec.witness6 (enc := enc) (C := Try.checked) false ⟨#[], #[.agg #[.int .i64 0, .int .i64 0, .slice none 0 0, .int .i64 0, .int .i64 0], .agg #[.int .i64 0, .int .i64 0, .slice none 0 0, .int .i64 0, .int .i64 0], .int .i64 0], []⟩ 8 (by kernel_rfl) (by kernel_rfl) (by kernel_rfl) (by kernel_rfl)) ?_
  intro W base args ds gs before hval0 hW hcnd hsz0 _
  have hval : ∀ (j : Nat) t v, Try.f3.params[j]? = some t → args[j]? = some v → Value.okWide Try.prog W .any base t v := hval0
  have hW' := hW
  obtain ⟨p, q, hA0, hV, rfl, hfz, hnd⟩ := hW
  have hA : DataW.TrodAll enc Try.prog W 0 (fun _ => true) true Try.f3.params.toList args.toList ds p := hA0
  rw [Try.params3] at hA hval
  obtain ⟨v0, vs0, d0, ds0, p0, q0, hargs, rfl, rfl, h0, r0⟩ := trodAll_cons hA
  obtain ⟨v1, vs1, d1, ds1, p1, q1, rfl, rfl, rfl, h1, r1⟩ := trodAll_cons r0
  obtain ⟨v2, vs2, d2, ds2, p2, q2, rfl, rfl, rfl, h2, r2⟩ := trodAll_cons r1
  obtain ⟨rfl, rfl, rfl⟩ := trodAll_nil r2
  obtain rfl : args = #[v0, v1, v2] := by cases args; simp_all
  obtain ⟨rfl, rfl⟩ := trodVars_none hV
  have k0 := h0
  have lt0 : ∀ x ∈ p0, x.block < W.heap.size := by obtain ⟨m, hm⟩ := k0; exact DataW.trod_lt m _ _ _ hm
  obtain ⟨a0_0, a0_1, A0_2, c0_2, l0_2, a0_3, a0_4, rfl, hC0_2, hc0_2, o0⟩ := arg26 (hval 0 26 v0 rfl rfl) h0
  have k1 := h1
  have lt1 : ∀ x ∈ p1, x.block < W.heap.size := by obtain ⟨m, hm⟩ := k1; exact DataW.trod_lt m _ _ _ hm
  obtain ⟨a1_0, a1_1, A1_2, c1_2, l1_2, a1_3, a1_4, rfl, hC1_2, hc1_2, o1⟩ := arg26 (hval 1 26 v1 rfl rfl) h1
  have k2 := h2
  have lt2 : ∀ x ∈ p2, x.block < W.heap.size := by obtain ⟨m, hm⟩ := k2; exact DataW.trod_lt m _ _ _ hm
  obtain ⟨a2, rfl, o2⟩ := arg_int Try.underlying3 (hval 2 3 v2 rfl rfl) h2
  clear hA0 hval0 hsz0
  obtain ⟨k, hk⟩ := Pure.FnExactFlyTurnBy a0_0 a0_1 l0_2 a0_3 a0_4 a1_0 a1_1 l1_2 a1_3 a1_4 a2 o0 o1 o2
  refine (laws_FnExactFlyTurnBy.calls k a0_0 a0_1 _ _ l0_2 a0_3 a0_4 a1_0 a1_1 _ _ l1_2 a1_3 a1_4 a2  true W hC0_2 hc0_2 hC1_2 hc1_2 hk).mono fun e W' ⟨he, bel0⟩ => ?_
  have bel : Below W.heap.size W W' := bel0
  subst he
  exact ⟨_, rfl, _, _, _, [], _, [], hW', trodAll_mk1 (shut_bool Try.underlying4 _), (trodAll_cons_mk (Below.trod laidOut (by kernel_rfl) (of_decide_eq_true (by kernel_rfl)) k0 bel lt0) (trodAll_cons_mk (Below.trod laidOut (by kernel_rfl) (of_decide_eq_true (by kernel_rfl)) k1 bel lt1) (trodAll_cons_mk (Below.trod laidOut (by kernel_rfl) (of_decide_eq_true (by kernel_rfl)) k2 bel lt2) trodAll_mk0))), rfl, bel.frame _, fun h => by cases h⟩
theorem over : Rows.fnExactFlyTurnByRow.holds Try.pinned (OpenSpec.ofChange Rows.fnExactFlyTurnBySpec) :=
  OpenClaim.holds_of_wide 3 Try.f3 rfl rfl rfl rfl rfl rfl rfl ⟨rfl, rfl, rfl, rfl, rfl⟩ rfl rfl rfl rfl rfl (by kernel_rfl) Try.func3 (by kernel_rfl)
    (of_decide_eq_true (by kernel_rfl)) (by unfold Func.isWrapper; first | (rw [if_pos (by decide +kernel)]; kernel_rfl) | (rw [if_neg (by decide +kernel)]; exact ⟨rfl, rfl⟩))
    (fun os started H enc _ => lifted os started H enc)
theorem proved : Rows.FnExactFlyTurnBySaid := over
end Go.Proofs.Ytglgfgeepdmlbaa.fnExactFlyTurnBy
namespace Go.Proofs.Ytglgfgeepdmlbaa
/-- The row, under a short name, for the claim. -/
theorem fnExactFlyTurnBy_holds : Rows.FnExactFlyTurnBySaid := fnExactFlyTurnBy.proved
end Go.Proofs.Ytglgfgeepdmlbaa
