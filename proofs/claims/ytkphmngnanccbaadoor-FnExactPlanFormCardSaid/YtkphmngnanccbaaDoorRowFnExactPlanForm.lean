/-
  The law FnExactPlanForm answers true for every input: the row, out of the law's contract and the plain statement.
-/
import Derived.Test.YtkphmngnanccbaaDoorRows
import Derived.Test.YtkphmngnanccbaaDoorPureFnExactPlanForm
import Derived.Test.YtkphmngnanccbaaDoorSayFnExactPlanForm
import Derived.WalkKit
import Derived.ProofKit
import Derived.OpenShut
import Derived.ShutString
import Derived.ChangeOld
import Derived.Below
import Derived.SizedLaws
import Derived.HandedShaped
import Derived.LaidMore
import Derived.Lay
import Derived.Stop.Joined
import Derived.LaidSub
import Derived.SevenTiedAt
import Derived.Shelf.Vars
import Derived.Test.YtkphmngnanccbaaDoorTie
import Derived.Test.YtkphmngnanccbaaDoorCards
import Derived.Test.YtkphmngnanccbaaDoorLaidPlan
namespace Go.Proofs.YtkphmngnanccbaaDoor.fnExactPlanForm
open Go.ChangeShapes Go.WideShapes Go.ChangeAt Go.RowKit Go.Proofs.YtkphmngnanccbaaDoorW.PrintWords Go.Proofs.YtkphmngnanccbaaDoor.Opens Go.Proofs.YtkphmngnanccbaaDoor.QFnExactPlanForm Go.Proofs.YtkphmngnanccbaaDoor.SayFnExactPlanForm
open Go
set_option linter.unusedVariables false
theorem own : ownKnob Tryd.prog.godebug = none := by kernel_rfl
theorem laidOut : laidOutB Tryd.prog = true := by kernel_rfl
set_option maxRecDepth 100000 in
theorem opens23 : Opens Tryd.prog 23 (Kd.pair Kd.string (Kd.pair (Kd.int .i64) (Kd.pair (Kd.int .i64) Kd.string))) ok23 := Opens.mono (Opens.struct Tryd.underlying23 (by kernel_rfl) (OpensF.cons rfl (by kernel_rfl) (Opens.string Tryd.underlying9) (OpensF.cons rfl (by kernel_rfl) (Opens.int Tryd.underlying3) (OpensF.cons rfl (by kernel_rfl) (Opens.int Tryd.underlying3) (OpensF.one rfl (by kernel_rfl) (Opens.string Tryd.underlying9)) (by decide)) (by decide)) (by decide))) (fun _ h => h)
set_option maxRecDepth 100000 in
theorem arg23 {H : Type} {enc : TypeId × Value → H} {w : World} {r : Reach} {b0 : Nat} {base : Nat} {sp : Nat → Bool} {held : Bool} {v : Value} {x : DataW H} {p : List MemPlace} (hv : Value.okWide Tryd.prog w r b0 23 v) (hd : DataW.Trod enc Tryd.prog w base sp held 23 v x p) :
    ∃ (a0 : ByteArray) (a1 : Int) (a2 : Int) (a3 : ByteArray), v = .agg #[.string a0, .int .i64 a1, .int .i64 a2, .string a3] ∧ (a0.size ≤ 9223372036854775807 ∧ I64 a1 ∧ I64 a2 ∧ a3.size ≤ 9223372036854775807) := by
  obtain ⟨⟨a0, a1, a2, a3⟩, cs, rfl, hK, hok⟩ := opens23.agg Tryd.underlying23 hv hd
  obtain ⟨_, _, rfl, rfl, ⟨_, _, rfl, rfl, ⟨_, _, rfl, rfl, rfl⟩⟩⟩ := hK
  obtain ⟨o0, o1, o2, o3⟩ := hok
  exact ⟨a0, a1, a2, a3, rfl, o0, o1, o2, o3⟩
set_option maxRecDepth 100000 in
theorem lifted (os : Os) (started : os.Started) (H : Type) (enc : TypeId × Value → H) :
    ReturnsInHanded {} Tryd.checked os 3 .any (fun w args => (Rows.fnExactPlanFormSpec.pre enc Tryd.prog Tryd.f3 Rows.fnExactPlanFormRow.domain false w args ∧ laidMetH Tryd.prog Rows.fnExactPlanFormRow.laid w) ∧ sizedMet enc Tryd.prog Tryd.f3 (OpenSpec.ofChange Rows.fnExactPlanFormSpec) false w args) (Rows.fnExactPlanFormSpec.post enc Tryd.prog Tryd.f3 false true false false) := by
  refine returnsInHanded_of_calls (C := Tryd.checked) own started (by kernel_rfl)
    (ChangeSpec.witness_shaped (enc := enc) (C := Tryd.checked) (os := os) (X := fun w _ => laidMetH Tryd.prog Rows.fnExactPlanFormRow.laid w) false (World.laidAll Tryd.prog os Rows.fnExactPlanFormRow.laid) #[.agg #[.string ByteArray.empty, .int .i64 0, .int .i64 0, .string ByteArray.empty]] 8 (World.laidAll_os _ _ _)
      (World.shaped_of_ZipB (by kernel_rfl) (by kernel_rfl)) (by kernel_rfl) (by kernel_rfl) (by kernel_rfl)
      (by rw [MakeChecks.laidMetH_plain _ _ _ (by kernel_rfl)]; exact laidMet_laidAll _ (by kernel_rfl) (by kernel_rfl))) ?_
  intro w0_ tape i _ hsh _ hok hpre hholds
  obtain ⟨_, _, _, fn', hfn', _, _, _, _, hval0⟩ := hok
  obtain rfl : fn' = Tryd.f3 := Option.some.inj (hfn'.symm.trans Tryd.func3)
  obtain ⟨⟨⟨ds, gs, before, hw_, hcnd⟩, hL_⟩, hz_⟩ := hpre
  have hW := DataW.Whole.of_heap (w' := w0_.forCall tape i) (by rfl) hw_
  have hsz0 := hz_.weights hw_
  have hPL0 : PlanLaid (w0_.forCall tape i).memory := LaidPlan.planLaid (by have hm_ := hL_; rw [MakeChecks.laidMetH_plain _ _ _ (by kernel_rfl)] at hm_; exact hm_)
  have hPL : PlanLaid (w0_.forCall tape i) := LaidPlan.planLaid_heap (by rfl) hPL0
  suffices contract : Tryd.prog |> fun P => Calls P 3 i.args (w0_.forCall tape i) fun e W' => ∃ v, e = .returned v ∧ Rows.fnExactPlanFormSpec.post enc Tryd.prog Tryd.f3 false true false false (w0_.forCall tape i) i.args v W' by
    refine contract.mono fun e W' ⟨v, he, hp⟩ => ?_
    subst he
    exact ChangeSpec.post_blind hp
  clear hw_ hz_ hL_ hfn' hholds hPL0
  generalize w0_.heap.size = base at *
  generalize w0_.forCall tape i = W at *
  generalize hargs_ : i.args = args at *
  have hval : ∀ (j : Nat) t v, Tryd.f3.params[j]? = some t → args[j]? = some v → Value.okWide Tryd.prog W .any base t v := hval0
  have hW' := hW
  obtain ⟨p, q, hA0, hV, rfl, hfz, hnd⟩ := hW
  have hA : DataW.TrodAll enc Tryd.prog W 0 (fun _ => true) true Tryd.f3.params.toList args.toList ds p := hA0
  rw [Tryd.params3] at hA hval
  obtain ⟨v0, vs0, d0, ds0, p0, q0, hargs, rfl, rfl, h0, r0⟩ := trodAll_cons hA
  obtain ⟨rfl, rfl, rfl⟩ := trodAll_nil r0
  obtain rfl : args = #[v0] := by cases args; simp_all
  have hV1 : DataW.TrodVars enc Tryd.prog W (fun _ => true) ["loop.example/lapwing/impl.whatWords"] gs q := hV
  obtain ⟨gv, tv, cs, fuelv, dv, pv, rfl, hgv, htv, hvar, hdv, rfl⟩ := trodVars_one hV1
  obtain rfl := Option.some.inj (LaidPlan.gW.symm.trans hgv)
  obtain rfl := Option.some.inj (LaidPlan.gWT.symm.trans htv)
  obtain ⟨vv, hvv⟩ : ∃ v : Value, cs.toList = v.cells.toList := by
    rcases DataW.trod_slice Tryd.underlying31 hdv with ⟨hcs, _⟩ | ⟨a, len, cap, _, _, _, _, hcs, _⟩
    · exact ⟨.slice none 0 0, hcs⟩
    · exact ⟨.slice (some a) len cap, hcs⟩
  have hvt : DataW.Trod enc Tryd.prog W 0 (fun _ => true) true 31 vv dv pv := ⟨fuelv, by rw [← hvv]; exact hdv⟩
  have ltv : ∀ x ∈ pv, x.block < W.heap.size := DataW.trod_lt fuelv _ _ _ hdv
  have k0 := h0
  have lt0 : ∀ x ∈ p0, x.block < W.heap.size := by obtain ⟨m, hm⟩ := k0; exact DataW.trod_lt m _ _ _ hm
  obtain ⟨a0_0, a0_1, a0_2, a0_3, rfl, o0⟩ := arg23 (hval 0 23 v0 rfl rfl) h0
  clear hA0 hval0 hsz0
  obtain ⟨k, hk⟩ := Pure.FnExactPlanForm a0_0 a0_1 a0_2 a0_3 o0
  refine (laws_FnExactPlanForm.calls k a0_0 a0_1 a0_2 a0_3  true W hk hPL).mono fun e W' ⟨he, bel0⟩ => ?_
  have bel : Below W.heap.size W W' := bel0
  subst he
  obtain ⟨fv2, hdv2⟩ := Below.trod laidOut (by kernel_rfl) (of_decide_eq_true (by kernel_rfl)) hvt bel ltv
  exact ⟨_, rfl, _, _, _, [], _, _, hW', trodAll_mk1 (shut_bool Tryd.underlying4 _), (trodAll_cons_mk (Below.trod laidOut (by kernel_rfl) (of_decide_eq_true (by kernel_rfl)) k0 bel lt0) trodAll_mk0), trodVars_mk1 LaidPlan.gW LaidPlan.gWT (LaidPlan.var_below hvar LaidPlan.gW bel (LaidPlan.var_lt hvar LaidPlan.gW)) (by rw [hvv]; exact hdv2), bel.frame _, fun h => by cases h⟩
theorem over : Rows.fnExactPlanFormRow.holds Tryd.pinned (OpenSpec.ofChange Rows.fnExactPlanFormSpec) :=
  OpenClaim.holds_of_wide 3 Tryd.f3 rfl rfl rfl rfl rfl rfl rfl ⟨rfl, rfl, rfl, rfl, rfl⟩ rfl rfl rfl rfl rfl (by kernel_rfl) Tryd.func3 (by kernel_rfl)
    (of_decide_eq_true (by kernel_rfl)) (by unfold Func.isWrapper; first | (rw [if_pos (by decide +kernel)]; kernel_rfl) | (rw [if_neg (by decide +kernel)]; exact ⟨rfl, rfl⟩))
    (fun os started H enc _ => lifted os started H enc)
theorem card : Rows.FnExactPlanFormCardSaid :=
  Claim7.holds_tied_plain_at .later [] [.data, .data, .data, .widerDeep] true (true, "ddaaeefc98d3b69caefd821abc8d8c924113c07e498ebcae96304f7d550467ff") false over (fun _ h => by cases h) (by kernel_rfl) (fun _ h => by cases h) fnExactPlanForm_row_tie rfl ⟨rfl, rfl⟩ (by kernel_rfl) rfl
    (fun f fn hf hfn => by
      obtain rfl : f = 3 := Option.some.inj ((show Tryd.prog.funcNamed "loop.example/lapwing/laws.FnExactPlanForm" = some 3 by kernel_rfl).symm.trans hf) |>.symm
      obtain rfl : fn = Tryd.f3 := (Option.some.inj (Tryd.func3.symm.trans hfn)).symm
      exact ⟨by kernel_rfl, fun j t ht => by
        rw [Tryd.params3] at ht
        have hm : t ∈ [23] := by simpa using Array.mem_of_getElem? ht
        have hall : ([23].all fun u => !Tryd.prog.wantsStandIn u) = true := by kernel_rfl
        exact (show Tryd.prog.wantsStandIn t = false by simpa using List.all_eq_true.1 hall t hm)⟩)
    (by kernel_rfl)
end Go.Proofs.YtkphmngnanccbaaDoor.fnExactPlanForm
namespace Go.Proofs.YtkphmngnanccbaaDoor
/-- The tied card, under a short name, for the claim. -/
theorem fnExactPlanForm_holds : Rows.FnExactPlanFormCardSaid := fnExactPlanForm.card
end Go.Proofs.YtkphmngnanccbaaDoor
