/- The walk of what the law FnExactPlanBaseOk reaches: laid by a program of this session (ownprint.py). -/
import Derived.Test.YtleenmphhlioaaaQFnExactPlanBaseOkx0
import Derived.Test.YtleenmphhlioaaaQFnExactPlanBaseOkx1
import Derived.Test.YtleenmphhlioaaaQFnExactPlanBaseOkx3
import Derived.Test.YtleenmphhlioaaaQFnExactPlanBaseOkx4
import Derived.Test.YtleenmphhlioaaaQFnExactPlanBaseOkx6
import Derived.Test.YtleenmphhlioaaaQFnExactPlanBaseOkx8
namespace Go.Proofs.Ytleenmphhlioaaa.QFnExactPlanBaseOk
open Go.RowKit Go.Proofs.YtleenmphhlioaaaW.PrintWords Go.Proofs.YtleenmphhlioaaaW.PrintLast Go.Proofs.YtleenmphhlioaaaW.PrintMore Go.Proofs.Ytleenmphhlioaaa.Z
attribute [local go_sem] max2_int min2_int max_two min_two max_three min_three max_four min_four zdn   -- for this text's walks alone
set_option linter.unusedVariables false
set_option linter.unusedSimpArgs false
def laws_FnExactPlanBaseOk.f (k : Nat) (l0_0 : List (S50)) (l0_1 : List (S52)) : Option (Bool) := (laws_szPlanBase.f k l0_0 l0_1 1048576).bind fun t193 => (if t193 < 0 then (some true) else ((laws_toPlanBase.f k l0_0 l0_1).bind fun bt194 => ((spec_PlanBaseOk.f k bt194.1 bt194.2).bind fun t200 => ((laws_toPlanBase.f k l0_0 l0_1).bind fun bt201 => ((impl_PlanBaseOk.f k bt201.1 bt201.2).bind fun t208 => (if (t208 != t200) = true then (some false) else ((laws_toPlanBase.f k l0_0 l0_1).bind fun bt209 => ((laws_eqPlanBase.f k bt201.1 bt201.2 bt209.1 bt209.2).bind fun t215 => (if t215 = true then (some true) else (some false))))))))))
set_option maxHeartbeats 8000000 in
set_option maxRecDepth 100000 in
theorem laws_FnExactPlanBaseOk.calls (k : Nat) (A0_0 : Option Addr) (c0_0 : Nat) (l0_0 : List (S50)) (A0_1 : Option Addr) (c0_1 : Nat) (l0_1 : List (S52)) (r : Bool) (w : World) (hr0_0 : Kd.C k50 w A0_0 l0_0.length l0_0) (hc0_0 : l0_0.length ≤ c0_0) (hr0_1 : Kd.C k52 w A0_1 l0_1.length l0_1) (hc0_1 : l0_1.length ≤ c0_1) (h : laws_FnExactPlanBaseOk.f k l0_0 l0_1 = some r) :
 Calls Try.prog 3 #[.agg #[.slice A0_0 l0_0.length c0_0, .slice A0_1 l0_1.length c0_1]] w fun e w' => e = .returned (.bool r) ∧ Below w.heap.size w w' := by
 have hu25 := Try.underlying25
 have hu31 := Try.underlying31
 have HR0_0 := Aside0.mk hr0_0
 have HC0_0 := Aside0.mk hc0_0
 clear hr0_0 hc0_0
 have HR0_1 := Aside0.mk hr0_1
 have HC0_1 := Aside0.mk hc0_1
 clear hr0_1 hc0_1
 have HB := Aside0.mk (Below.refl w.heap.size w)
 have H : ((laws_szPlanBase.f k l0_0 l0_1 1048576).bind fun t193 => (if t193 < 0 then (some true) else ((laws_toPlanBase.f k l0_0 l0_1).bind fun bt194 => ((spec_PlanBaseOk.f k bt194.1 bt194.2).bind fun t200 => ((laws_toPlanBase.f k l0_0 l0_1).bind fun bt201 => ((impl_PlanBaseOk.f k bt201.1 bt201.2).bind fun t208 => (if (t208 != t200) = true then (some false) else ((laws_toPlanBase.f k l0_0 l0_1).bind fun bt209 => ((laws_eqPlanBase.f k bt201.1 bt201.2 bt209.1 bt209.2).bind fun t215 => (if t215 = true then (some true) else (some false))))))))))) = some r := h
 clear h
 replace H := zbd H; obtain ⟨t193, A2, H⟩ := H
 by_cases c3 : t193 < 0
 ·rw [if_pos c3] at H
  have c3b0 : decide (t193 < 0) = true := decide_eq_true c3
  clear c3
  obtain rfl := Option.some.inj H
  go_enter Try.func3, Try.ntmps3
  go_wp2_with (first | ((with_reducible refine gate_dst (N := 1) rfl ?_); refine zbx 1 #[.slice A0_0 l0_0.length c0_0, .slice A0_1 l0_1.length c0_1] 25 ?_; intro gb192 hg w4 hbox hb; have BK192 := zA hbox; have GW192 := zgs hg (zs0 HB); have GE192 := zgs hg (zs0 HB); replace HB := zE (zs0 HB) hb; clear hb hbox hg; obtain ⟨hcz5_0, hcz5_1⟩ := zd2 BK192; obtain ⟨hfz5_0, hfz5_1⟩ := zn2 BK192) | ((with_reducible refine gate_callee (f := 4) rfl ?_); refine zgl (N := some 9) Try.func4 #[.agg #[.slice A0_0 l0_0.length c0_0, .slice A0_1 l0_1.length c0_1], .int .i64 1048576] ?_; (with_reducible refine (laws_szPlanBase.calls k _ _ l0_0 _ _ l0_1 1048576 t193 _ ?side1 ?side2 ?side3 ?side4 A2.out).mono ?_); (case side1 => exact zC HR0_0 HB); (case side2 => exact HC0_0.out); (case side3 => exact zC HR0_1 HB); (case side4 => exact HC0_1.out); rintro e w6 ⟨rfl, hb⟩; refine ⟨_, rfl, ?_⟩; replace BK192 := zb BK192 hb; replace HB := zE (zs1 HB GE192) hb; (try clear hb); (try clear hb2); (try clear hk); (try clear hi)))
  go_ret
  exact ⟨ze, zs1 HB GE192⟩
 rw [if_neg c3] at H
 have c3b0 : decide (t193 < 0) = false := decide_eq_false c3
 clear c3
 replace H := Option.bind_eq_some_iff.mp H
 obtain ⟨⟨t194, t197⟩, A70, H⟩ := H
 replace H : ((spec_PlanBaseOk.f k t194 t197).bind fun t200 => ((laws_toPlanBase.f k l0_0 l0_1).bind fun bt201 => ((impl_PlanBaseOk.f k bt201.1 bt201.2).bind fun t208 => (if (t208 != t200) = true then (some false) else ((laws_toPlanBase.f k l0_0 l0_1).bind fun bt209 => ((laws_eqPlanBase.f k bt201.1 bt201.2 bt209.1 bt209.2).bind fun t215 => (if t215 = true then (some true) else (some false)))))))) = some r := H
 have A7 := Aside0.mk A70
 clear A70
 replace H := zbd H; obtain ⟨t200, A8, H⟩ := H
 replace H := Option.bind_eq_some_iff.mp H
 obtain ⟨⟨t201, t204⟩, A90, H⟩ := H
 replace H : ((impl_PlanBaseOk.f k t201 t204).bind fun t208 => (if (t208 != t200) = true then (some false) else ((laws_toPlanBase.f k l0_0 l0_1).bind fun bt209 => ((laws_eqPlanBase.f k t201 t204 bt209.1 bt209.2).bind fun t215 => (if t215 = true then (some true) else (some false)))))) = some r := H
 have A9 := Aside0.mk A90
 clear A90
 replace H := zbd H; obtain ⟨t208, A10, H⟩ := H
 by_cases c11 : (t208 != t200) = true
 ·rw [if_pos c11] at H
  have c11b0 : (t208 != t200) = true := c11
  (try (have c11b1 : decide (t208 = t200) = false := by simpa using c11))
  (try (have c11b2 : (t208 == t200) = false := by simpa using c11))
  (try (have c11b3 : ¬ (t208 = t200) := by simpa using c11))
  clear c11
  obtain rfl := Option.some.inj H
  go_enter Try.func3, Try.ntmps3
  go_wp2_with (first | ((with_reducible refine gate_dst (N := 1) rfl ?_); refine zbx 1 #[.slice A0_0 l0_0.length c0_0, .slice A0_1 l0_1.length c0_1] 25 ?_; intro gb192 hg w12 hbox hb; have BK192 := zA hbox; have GW192 := zgs hg (zs0 HB); have GE192 := zgs hg (zs0 HB); replace HB := zE (zs0 HB) hb; clear hb hbox hg; obtain ⟨hcz13_0, hcz13_1⟩ := zd2 BK192; obtain ⟨hfz13_0, hfz13_1⟩ := zn2 BK192) | ((with_reducible refine gate_callee (f := 4) rfl ?_); refine zgl (N := some 9) Try.func4 #[.agg #[.slice A0_0 l0_0.length c0_0, .slice A0_1 l0_1.length c0_1], .int .i64 1048576] ?_; (with_reducible refine (laws_szPlanBase.calls k _ _ l0_0 _ _ l0_1 1048576 t193 _ ?side1 ?side2 ?side3 ?side4 A2.out).mono ?_); (case side1 => exact zC HR0_0 HB); (case side2 => exact HC0_0.out); (case side3 => exact zC HR0_1 HB); (case side4 => exact HC0_1.out); rintro e w14 ⟨rfl, hb⟩; refine ⟨_, rfl, ?_⟩; replace BK192 := zb BK192 hb; replace HB := zE (zs1 HB GE192) hb; (try clear hb); (try clear hb2); (try clear hk); (try clear hi); obtain ⟨hcz15_0, hcz15_1⟩ := zd2 BK192; obtain ⟨hfz15_0, hfz15_1⟩ := zn2 BK192) | ((with_reducible refine gate_callee (f := 6) rfl ?_); refine zgl (N := some 13) Try.func6 #[.agg #[.slice A0_0 l0_0.length c0_0, .slice A0_1 l0_1.length c0_1]] ?_; (with_reducible refine (laws_toPlanBase.calls k _ _ l0_0 _ _ l0_1 t194 t197 _ ?side1 ?side2 ?side3 ?side4 A7.out).mono ?_); (case side1 => exact zC HR0_0 HB); (case side2 => exact HC0_0.out); (case side3 => exact zC HR0_1 HB); (case side4 => exact HC0_1.out); rintro e w16 ⟨v195, v198, rfl, ho0, ho1, hb⟩; refine ⟨_, rfl, ?_⟩; have HO196 := Aside0.mk (Kd.R_lower ho0 (below_size (zs1 HB GE192))); have HO199 := Aside0.mk (Kd.R_lower ho1 (below_size (zs1 HB GE192))); replace BK192 := zb BK192 hb; replace HB := zE (zs1 HB GE192) hb; (try clear hb); (try clear hb2); (try clear hk); (try clear hi); (try clear ho0); (try clear ho1); obtain ⟨Ao17, co17, eo17⟩ := Kd.R_slice HO196.out; subst eo17; obtain ⟨Ao18, co18, eo18⟩ := Kd.R_slice HO199.out; subst eo18) | ((with_reducible refine gate_callee (f := 5) rfl ?_); refine zgl (N := some 14) Try.func5 #[.agg #[.slice Ao17 t194.length co17, .slice Ao18 t197.length co18]] ?_; (with_reducible refine (spec_PlanBaseOk.calls k _ _ t194 _ _ t197 t200 _ ?side1 ?side2 ?side3 ?side4 A8.out).mono ?_); (case side1 => repeat (first | exact (Kd.R_reads' HO196.out).2.2 | (with_reducible refine Kd.C_alloc ?_ _) | (with_reducible refine Kd.C_drewN ?_ _) | (with_reducible refine Kd.C_drew ?_))); (case side2 => exact (Kd.R_reads' HO196.out).2.1); (case side3 => repeat (first | exact (Kd.R_reads' HO199.out).2.2 | (with_reducible refine Kd.C_alloc ?_ _) | (with_reducible refine Kd.C_drewN ?_ _) | (with_reducible refine Kd.C_drew ?_))); (case side4 => exact (Kd.R_reads' HO199.out).2.1); rintro e w19 ⟨rfl, hb⟩; refine ⟨_, rfl, ?_⟩; replace HO196 := Aside0.mk (Kd.R_below (zr HO196) hb); replace HO199 := Aside0.mk (Kd.R_below (zr HO199) hb); replace BK192 := zb BK192 hb; replace HB := zE (zs1 HB GE192) hb; (try clear hb); (try clear hb2); (try clear hk); (try clear hi); obtain ⟨hcz20_0, hcz20_1⟩ := zd2 BK192; obtain ⟨hfz20_0, hfz20_1⟩ := zn2 BK192) | ((with_reducible refine gate_callee (f := 6) rfl ?_); refine zgl (N := some 16) Try.func6 #[.agg #[.slice A0_0 l0_0.length c0_0, .slice A0_1 l0_1.length c0_1]] ?_; (with_reducible refine (laws_toPlanBase.calls k _ _ l0_0 _ _ l0_1 t201 t204 _ ?side1 ?side2 ?side3 ?side4 A9.out).mono ?_); (case side1 => exact zC HR0_0 HB); (case side2 => exact HC0_0.out); (case side3 => exact zC HR0_1 HB); (case side4 => exact HC0_1.out); rintro e w21 ⟨v202, v205, rfl, ho0, ho1, hb⟩; refine ⟨_, rfl, ?_⟩; have HO203 := Aside0.mk (Kd.R_lower (Kd.R_new' ho0 (Kd.R_lt (zr HO196))) (below_size (zs1 HB GE192))); have HO206 := Aside0.mk (Kd.R_lower (Kd.R_new' ho1 (Kd.R_lt (zr HO199))) (below_size (zs1 HB GE192))); replace HO196 := Aside0.mk (Kd.R_elder' (zr HO196) (Kd.R_base ho0) hb); replace HO199 := Aside0.mk (Kd.R_elder' (zr HO199) (Kd.R_base ho1) hb); replace BK192 := zb BK192 hb; replace HB := zE (zs1 HB GE192) hb; (try clear hb); (try clear hb2); (try clear hk); (try clear hi); (try clear ho0); (try clear ho1)) | ((with_reducible refine gate_dst (N := 5) rfl ?_); refine zbx 5 #[.slice none 0 0, .slice none 0 0] 31 ?_; intro gb207 hg w22 hbox hb; have BK207 := zA hbox; have GW207 := zgs hg (zs1 HB GE192); have GE207 := zgs hg (zs1 HB GE192); have NB192_207 := zne hg BK192; have NB207_192 := znf hg BK192; replace HO196 := Aside0.mk (Kd.R_below (zr HO196) hb); replace HO199 := Aside0.mk (Kd.R_below (zr HO199) hb); replace HO203 := Aside0.mk (Kd.R_below (zr HO203) hb); replace HO206 := Aside0.mk (Kd.R_below (zr HO206) hb); replace BK192 := zb BK192 hb; replace HB := zE (zs1 HB GE192) hb; clear hb hbox hg; obtain ⟨Ao23, co23, eo23⟩ := Kd.R_slice HO203.out; subst eo23; have hnb24 := NB207_192.out; have hnc24 := NB192_207.out; obtain ⟨hcz25_0, hcz25_1⟩ := zd2 BK207; obtain ⟨hfz25_0, hfz25_1⟩ := zn2 BK207; obtain ⟨Ao26, co26, eo26⟩ := Kd.R_slice HO206.out; subst eo26) | ((with_reducible refine gate_callee (f := 7) rfl ?_); refine zgl (N := some 18) Try.func7 #[.agg #[.slice Ao23 t201.length co23, .slice Ao26 t204.length co26]] ?_; (with_reducible refine (impl_PlanBaseOk.calls k _ _ t201 _ _ t204 t208 _ ?side1 ?side2 ?side3 ?side4 A10.out).mono ?_); (case side1 => refine (Kd.R_reads' (e := 39) (base := w.heap.size) (ok := fun k_ => (True ∧ some k_ ≠ (.slice Ao17 t194.length co17 : Value).ownBlock)) (n := t201.length) (c := co23) ?_).2.2; exact (zRf HO203 BK207 (fun _ h_ => h_.1))); (case side2 => exact (Kd.R_reads' HO203.out).2.1); (case side3 => refine (Kd.R_reads' (e := 42) (base := w.heap.size) (ok := fun k_ => (True ∧ some k_ ≠ (.slice Ao18 t197.length co18 : Value).ownBlock)) (n := t204.length) (c := co26) ?_).2.2; exact (zRf HO206 BK207 (fun _ h_ => h_.1))); (case side4 => exact (Kd.R_reads' HO206.out).2.1); rintro e w27 ⟨rfl, hb⟩; refine ⟨_, rfl, ?_⟩; replace HO196 := Aside0.mk (Kd.R_below (zRf HO196 BK207 (fun _ h_ => h_.1)) hb); replace HO199 := Aside0.mk (Kd.R_below (zRf HO199 BK207 (fun _ h_ => h_.1)) hb); replace HO203 := Aside0.mk (Kd.R_below (zRf HO203 BK207 (fun _ h_ => h_.1)) hb); replace HO206 := Aside0.mk (Kd.R_below (zRf HO206 BK207 (fun _ h_ => h_.1)) hb); replace BK192 := Aside0.mk (blk_below (g := gb192) (o := .cells #[.slice A0_0 l0_0.length c0_0, .slice A0_1 l0_1.length c0_1] 25 (0, 0)) (zpf BK192 NB192_207) hb); replace BK207 := Aside0.mk (blk_below (g := gb207) (o := .cells #[.slice Ao23 t201.length co23, .slice Ao26 t204.length co26] 31 (0, 0)) (zpb BK207) hb); replace HB := zE (zs2 HB GE192 GE207) hb; (try clear hb); (try clear hb2); (try clear hk); (try clear hi)))
  go_ret
  exact ⟨ze, zs2 HB GE192 GE207⟩
 rw [if_neg c11] at H
 have c11b0 : (t208 != t200) = false := by simpa using c11
 (try (have c11b1 : decide (t208 = t200) = true := by simpa using c11))
 (try (have c11b2 : (t208 == t200) = true := by simpa using c11))
 clear c11
 replace H := Option.bind_eq_some_iff.mp H
 obtain ⟨⟨t209, t212⟩, A280, H⟩ := H
 replace H : ((laws_eqPlanBase.f k t201 t204 t209 t212).bind fun t215 => (if t215 = true then (some true) else (some false))) = some r := H
 have A28 := Aside0.mk A280
 clear A280
 replace H := zbd H; obtain ⟨t215, A29, H⟩ := H
 by_cases c30 : t215 = true
 ·subst c30
  have H1 : (some true) = some r := by rw [if_pos rfl] at H; exact H
  clear H
  have H := H1
  clear H1
  obtain rfl := Option.some.inj H
  go_enter Try.func3, Try.ntmps3
  try go_wp2_with (first | ((with_reducible refine gate_dst (N := 1) rfl ?_); refine zbx 1 #[.slice A0_0 l0_0.length c0_0, .slice A0_1 l0_1.length c0_1] 25 ?_; intro gb192 hg w31 hbox hb; have BK192 := zA hbox; have GW192 := zgs hg (zs0 HB); have GE192 := zgs hg (zs0 HB); replace HB := zE (zs0 HB) hb; clear hb hbox hg; obtain ⟨hcz32_0, hcz32_1⟩ := zd2 BK192; obtain ⟨hfz32_0, hfz32_1⟩ := zn2 BK192) | ((with_reducible refine gate_callee (f := 4) rfl ?_); refine zgl (N := some 9) Try.func4 #[.agg #[.slice A0_0 l0_0.length c0_0, .slice A0_1 l0_1.length c0_1], .int .i64 1048576] ?_; (with_reducible refine (laws_szPlanBase.calls k _ _ l0_0 _ _ l0_1 1048576 t193 _ ?side1 ?side2 ?side3 ?side4 A2.out).mono ?_); (case side1 => exact zC HR0_0 HB); (case side2 => exact HC0_0.out); (case side3 => exact zC HR0_1 HB); (case side4 => exact HC0_1.out); rintro e w33 ⟨rfl, hb⟩; refine ⟨_, rfl, ?_⟩; replace BK192 := zb BK192 hb; replace HB := zE (zs1 HB GE192) hb; (try clear hb); (try clear hb2); (try clear hk); (try clear hi); obtain ⟨hcz34_0, hcz34_1⟩ := zd2 BK192; obtain ⟨hfz34_0, hfz34_1⟩ := zn2 BK192) | ((with_reducible refine gate_callee (f := 6) rfl ?_); refine zgl (N := some 13) Try.func6 #[.agg #[.slice A0_0 l0_0.length c0_0, .slice A0_1 l0_1.length c0_1]] ?_; (with_reducible refine (laws_toPlanBase.calls k _ _ l0_0 _ _ l0_1 t194 t197 _ ?side1 ?side2 ?side3 ?side4 A7.out).mono ?_); (case side1 => exact zC HR0_0 HB); (case side2 => exact HC0_0.out); (case side3 => exact zC HR0_1 HB); (case side4 => exact HC0_1.out); rintro e w35 ⟨v195, v198, rfl, ho0, ho1, hb⟩; refine ⟨_, rfl, ?_⟩; have HO196 := Aside0.mk (Kd.R_lower ho0 (below_size (zs1 HB GE192))); have HO199 := Aside0.mk (Kd.R_lower ho1 (below_size (zs1 HB GE192))); replace BK192 := zb BK192 hb; replace HB := zE (zs1 HB GE192) hb; (try clear hb); (try clear hb2); (try clear hk); (try clear hi); (try clear ho0); (try clear ho1); obtain ⟨Ao36, co36, eo36⟩ := Kd.R_slice HO196.out; subst eo36; obtain ⟨Ao37, co37, eo37⟩ := Kd.R_slice HO199.out; subst eo37) | ((with_reducible refine gate_callee (f := 5) rfl ?_); refine zgl (N := some 14) Try.func5 #[.agg #[.slice Ao36 t194.length co36, .slice Ao37 t197.length co37]] ?_; (with_reducible refine (spec_PlanBaseOk.calls k _ _ t194 _ _ t197 t200 _ ?side1 ?side2 ?side3 ?side4 A8.out).mono ?_); (case side1 => repeat (first | exact (Kd.R_reads' HO196.out).2.2 | (with_reducible refine Kd.C_alloc ?_ _) | (with_reducible refine Kd.C_drewN ?_ _) | (with_reducible refine Kd.C_drew ?_))); (case side2 => exact (Kd.R_reads' HO196.out).2.1); (case side3 => repeat (first | exact (Kd.R_reads' HO199.out).2.2 | (with_reducible refine Kd.C_alloc ?_ _) | (with_reducible refine Kd.C_drewN ?_ _) | (with_reducible refine Kd.C_drew ?_))); (case side4 => exact (Kd.R_reads' HO199.out).2.1); rintro e w38 ⟨rfl, hb⟩; refine ⟨_, rfl, ?_⟩; replace HO196 := Aside0.mk (Kd.R_below (zr HO196) hb); replace HO199 := Aside0.mk (Kd.R_below (zr HO199) hb); replace BK192 := zb BK192 hb; replace HB := zE (zs1 HB GE192) hb; (try clear hb); (try clear hb2); (try clear hk); (try clear hi); obtain ⟨hcz39_0, hcz39_1⟩ := zd2 BK192; obtain ⟨hfz39_0, hfz39_1⟩ := zn2 BK192) | ((with_reducible refine gate_callee (f := 6) rfl ?_); refine zgl (N := some 16) Try.func6 #[.agg #[.slice A0_0 l0_0.length c0_0, .slice A0_1 l0_1.length c0_1]] ?_; (with_reducible refine (laws_toPlanBase.calls k _ _ l0_0 _ _ l0_1 t201 t204 _ ?side1 ?side2 ?side3 ?side4 A9.out).mono ?_); (case side1 => exact zC HR0_0 HB); (case side2 => exact HC0_0.out); (case side3 => exact zC HR0_1 HB); (case side4 => exact HC0_1.out); rintro e w40 ⟨v202, v205, rfl, ho0, ho1, hb⟩; refine ⟨_, rfl, ?_⟩; have HO203 := Aside0.mk (Kd.R_lower (Kd.R_new' ho0 (Kd.R_lt (zr HO196))) (below_size (zs1 HB GE192))); have HO206 := Aside0.mk (Kd.R_lower (Kd.R_new' ho1 (Kd.R_lt (zr HO199))) (below_size (zs1 HB GE192))); replace HO196 := Aside0.mk (Kd.R_elder' (zr HO196) (Kd.R_base ho0) hb); replace HO199 := Aside0.mk (Kd.R_elder' (zr HO199) (Kd.R_base ho1) hb); replace BK192 := zb BK192 hb; replace HB := zE (zs1 HB GE192) hb; (try clear hb); (try clear hb2); (try clear hk); (try clear hi); (try clear ho0); (try clear ho1)) | ((with_reducible refine gate_dst (N := 5) rfl ?_); refine zbx 5 #[.slice none 0 0, .slice none 0 0] 31 ?_; intro gb207 hg w41 hbox hb; have BK207 := zA hbox; have GW207 := zgs hg (zs1 HB GE192); have GE207 := zgs hg (zs1 HB GE192); have NB192_207 := zne hg BK192; have NB207_192 := znf hg BK192; replace HO196 := Aside0.mk (Kd.R_below (zr HO196) hb); replace HO199 := Aside0.mk (Kd.R_below (zr HO199) hb); replace HO203 := Aside0.mk (Kd.R_below (zr HO203) hb); replace HO206 := Aside0.mk (Kd.R_below (zr HO206) hb); replace BK192 := zb BK192 hb; replace HB := zE (zs1 HB GE192) hb; clear hb hbox hg; obtain ⟨Ao42, co42, eo42⟩ := Kd.R_slice HO203.out; subst eo42; have hnb43 := NB207_192.out; have hnc43 := NB192_207.out; obtain ⟨hcz44_0, hcz44_1⟩ := zd2 BK207; obtain ⟨hfz44_0, hfz44_1⟩ := zn2 BK207; obtain ⟨Ao45, co45, eo45⟩ := Kd.R_slice HO206.out; subst eo45) | ((with_reducible refine gate_callee (f := 7) rfl ?_); refine zgl (N := some 18) Try.func7 #[.agg #[.slice Ao42 t201.length co42, .slice Ao45 t204.length co45]] ?_; (with_reducible refine (impl_PlanBaseOk.calls k _ _ t201 _ _ t204 t208 _ ?side1 ?side2 ?side3 ?side4 A10.out).mono ?_); (case side1 => refine (Kd.R_reads' (e := 39) (base := w.heap.size) (ok := fun k_ => (True ∧ some k_ ≠ (.slice Ao36 t194.length co36 : Value).ownBlock)) (n := t201.length) (c := co42) ?_).2.2; exact (zRf HO203 BK207 (fun _ h_ => h_.1))); (case side2 => exact (Kd.R_reads' HO203.out).2.1); (case side3 => refine (Kd.R_reads' (e := 42) (base := w.heap.size) (ok := fun k_ => (True ∧ some k_ ≠ (.slice Ao37 t197.length co37 : Value).ownBlock)) (n := t204.length) (c := co45) ?_).2.2; exact (zRf HO206 BK207 (fun _ h_ => h_.1))); (case side4 => exact (Kd.R_reads' HO206.out).2.1); rintro e w46 ⟨rfl, hb⟩; refine ⟨_, rfl, ?_⟩; replace HO196 := Aside0.mk (Kd.R_below (zRf HO196 BK207 (fun _ h_ => h_.1)) hb); replace HO199 := Aside0.mk (Kd.R_below (zRf HO199 BK207 (fun _ h_ => h_.1)) hb); replace HO203 := Aside0.mk (Kd.R_below (zRf HO203 BK207 (fun _ h_ => h_.1)) hb); replace HO206 := Aside0.mk (Kd.R_below (zRf HO206 BK207 (fun _ h_ => h_.1)) hb); replace BK192 := Aside0.mk (blk_below (g := gb192) (o := .cells #[.slice A0_0 l0_0.length c0_0, .slice A0_1 l0_1.length c0_1] 25 (0, 0)) (zpf BK192 NB192_207) hb); replace BK207 := Aside0.mk (blk_below (g := gb207) (o := .cells #[.slice Ao42 t201.length co42, .slice Ao45 t204.length co45] 31 (0, 0)) (zpb BK207) hb); replace HB := zE (zs2 HB GE192 GE207) hb; (try clear hb); (try clear hb2); (try clear hk); (try clear hi)))
  replace HO196 := Aside0.mk (Kd.R_drew HO196.out)
  replace HO199 := Aside0.mk (Kd.R_drew HO199.out)
  replace HO203 := Aside0.mk (Kd.R_drew HO203.out)
  replace HO206 := Aside0.mk (Kd.R_drew HO206.out)
  replace BK192 := Aside0.mk (blk_drew BK192.out)
  replace BK207 := Aside0.mk (blk_drew BK207.out)
  replace HB := Aside0.mk (below_drew1 HB.out)
  refine start_ (n := 5) (S := fun w' => w'.cell? ⟨gb207, 0, none⟩ = some (.slice Ao42 t201.length co42) ∧ w'.cell? ⟨gb207, 1, none⟩ = some (.slice Ao45 t204.length co45) ∧ w'.cell? ⟨gb192, 0, none⟩ = some (.slice A0_0 l0_0.length c0_0) ∧ w'.cell? ⟨gb192, 1, none⟩ = some (.slice A0_1 l0_1.length c0_1)) (ds := []) #[false, false, false, false, false] (by kernel_rfl) rfl rfl ⟨zc0 BK207, zc1 BK207, zc0 BK192, zc1 BK192⟩ (fun hHeld => ?_)
  generalize w46.drew = w47 at HO196 HO199 HO203 HO206 BK192 BK207 HB hHeld ⊢
  refine take_ (i := 0) (N := some 22) (v := ?_) (a' := ?_) #[true, false, false, false, false] rfl rfl (by kernel_rfl) (fun _ _ _ h => h) (Or.inl ⟨by rfl, ?_⟩) hHeld ?_ ?_; rotate_left; exact zt4; rotate_left; exact zput
  refine take_ (i := 1) (N := some 23) (v := ?_) (a' := ?_) #[true, true, false, false, false] rfl rfl (by kernel_rfl) (fun _ _ _ h => h) (Or.inl ⟨by rfl, ?_⟩) hHeld ?_ ?_; rotate_left; exact zt4; rotate_left; exact zput
  refine one_ (i := 2) (N := some 24) #[true, true, true, false, false] rfl rfl (by kernel_rfl) (by decide) (fun K hK => ?_)
  refine zgo Try.func6 #[.agg #[.slice A0_0 l0_0.length c0_0, .slice A0_1 l0_1.length c0_1]] ?_
  with_reducible refine (laws_toPlanBase.calls k _ _ l0_0 _ _ l0_1 t209 t212 _ ?side1 ?side2 ?side3 ?side4 A28.out).mono ?_
  (case side1 => exact zC HR0_0 HB)
  (case side2 => exact HC0_0.out)
  (case side3 => exact zC HR0_1 HB)
  (case side4 => exact HC0_1.out)
  rintro e w48 ⟨v210, v213, rfl, ho0, ho1, hb⟩
  refine ⟨_, rfl, ?_⟩
  have HO211 := Aside0.mk (Kd.R_lower (Kd.R_new' (Kd.R_new' ho0 (Kd.R_lt (zr HO196))) (Kd.R_lt (zr HO203))) (below_size (zs2 HB GE192 GE207)))
  have HO214 := Aside0.mk (Kd.R_lower (Kd.R_new' (Kd.R_new' ho1 (Kd.R_lt (zr HO199))) (Kd.R_lt (zr HO206))) (below_size (zs2 HB GE192 GE207)))
  replace HO196 := Aside0.mk (Kd.R_elder' (zr HO196) (Kd.R_base ho0) hb)
  replace HO199 := Aside0.mk (Kd.R_elder' (zr HO199) (Kd.R_base ho1) hb)
  replace HO203 := Aside0.mk (Kd.R_elder' (zr HO203) (Kd.R_base ho0) hb)
  replace HO206 := Aside0.mk (Kd.R_elder' (zr HO206) (Kd.R_base ho1) hb)
  replace BK192 := zb BK192 hb
  replace BK207 := zb BK207 hb
  replace HB := zE (zs2 HB GE192 GE207) hb
  (try clear hb)
  (try clear hb2)
  (try clear hk)
  (try clear hi)
  (try clear ho0)
  (try clear ho1)
  obtain ⟨Ao49, co49, eo49⟩ := Kd.R_slice HO211.out
  (first | subst eo49 | (injection eo49 with f1_ f2_ f3_; have f4_ := f1_.symm; have f5_ := f3_.symm; clear f1_ f2_ f3_; subst f4_; subst f5_))
  obtain ⟨Ao50, co50, eo50⟩ := Kd.R_slice HO214.out
  (first | subst eo50 | (injection eo50 with f1_ f2_ f3_; have f4_ := f1_.symm; have f5_ := f3_.symm; clear f1_ f2_ f3_; subst f4_; subst f5_))
  refine hK.out _ _ ⟨zc0 BK207, zc1 BK207, zc0 BK192, zc1 BK192⟩ (fun hHeld => ?_)
  clear hK K
  refine zN ?_
  refine one_ (i := 3) (N := some 25) #[true, true, true, true, false] rfl rfl (by kernel_rfl) (by decide) (fun K hK => ?_)
  refine zgo Try.func8 #[.agg #[.slice Ao42 t201.length co42, .slice Ao45 t204.length co45], .agg #[.slice Ao49 t209.length co49, .slice Ao50 t212.length co50]] ?_
  with_reducible refine (laws_eqPlanBase.calls k _ _ t201 _ _ t204 _ _ t209 _ _ t212 true _ ?side1 ?side2 ?side3 ?side4 ?side5 ?side6 ?side7 ?side8 A29.out).mono ?_
  (case side1 => repeat (first | exact (Kd.R_reads' HO203.out).2.2 | (with_reducible refine Kd.C_alloc ?_ _) | (with_reducible refine Kd.C_drewN ?_ _) | (with_reducible refine Kd.C_drew ?_)))
  (case side2 => exact (Kd.R_reads' HO203.out).2.1)
  (case side3 => repeat (first | exact (Kd.R_reads' HO206.out).2.2 | (with_reducible refine Kd.C_alloc ?_ _) | (with_reducible refine Kd.C_drewN ?_ _) | (with_reducible refine Kd.C_drew ?_)))
  (case side4 => exact (Kd.R_reads' HO206.out).2.1)
  (case side5 => repeat (first | exact (Kd.R_reads' HO211.out).2.2 | (with_reducible refine Kd.C_alloc ?_ _) | (with_reducible refine Kd.C_drewN ?_ _) | (with_reducible refine Kd.C_drew ?_)))
  (case side6 => exact (Kd.R_reads' HO211.out).2.1)
  (case side7 => repeat (first | exact (Kd.R_reads' HO214.out).2.2 | (with_reducible refine Kd.C_alloc ?_ _) | (with_reducible refine Kd.C_drewN ?_ _) | (with_reducible refine Kd.C_drew ?_)))
  (case side8 => exact (Kd.R_reads' HO214.out).2.1)
  rintro e w51 ⟨rfl, hb⟩
  refine ⟨_, rfl, ?_⟩
  replace HO196 := Aside0.mk (Kd.R_below (zr HO196) hb)
  replace HO199 := Aside0.mk (Kd.R_below (zr HO199) hb)
  replace HO203 := Aside0.mk (Kd.R_below (zr HO203) hb)
  replace HO206 := Aside0.mk (Kd.R_below (zr HO206) hb)
  replace HO211 := Aside0.mk (Kd.R_below (zr HO211) hb)
  replace HO214 := Aside0.mk (Kd.R_below (zr HO214) hb)
  replace BK192 := zb BK192 hb
  replace BK207 := zb BK207 hb
  replace HB := zE (zs2 HB GE192 GE207) hb
  (try clear hb)
  (try clear hb2)
  (try clear hk)
  (try clear hi)
  refine hK.out _ _ ⟨zc0 BK207, zc1 BK207, zc0 BK192, zc1 BK192⟩ (fun hHeld => ?_)
  clear hK K
  refine zN ?_
  refine zp 4 ?_
  refine done_ (by kernel_rfl) ?_
  try go_wp2
  go_ret
  exact ⟨ze, zs2 HB GE192 GE207⟩
 replace c30 := Bool.eq_false_iff.mpr c30
 subst c30
 have H1 : (some false) = some r := by rw [if_neg (show ¬ (false = true) by decide)] at H; exact H
 clear H
 have H := H1
 clear H1
 obtain rfl := Option.some.inj H
 go_enter Try.func3, Try.ntmps3
 try go_wp2_with (first | ((with_reducible refine gate_dst (N := 1) rfl ?_); refine zbx 1 #[.slice A0_0 l0_0.length c0_0, .slice A0_1 l0_1.length c0_1] 25 ?_; intro gb192 hg w52 hbox hb; have BK192 := zA hbox; have GW192 := zgs hg (zs0 HB); have GE192 := zgs hg (zs0 HB); replace HB := zE (zs0 HB) hb; clear hb hbox hg; obtain ⟨hcz53_0, hcz53_1⟩ := zd2 BK192; obtain ⟨hfz53_0, hfz53_1⟩ := zn2 BK192) | ((with_reducible refine gate_callee (f := 4) rfl ?_); refine zgl (N := some 9) Try.func4 #[.agg #[.slice A0_0 l0_0.length c0_0, .slice A0_1 l0_1.length c0_1], .int .i64 1048576] ?_; (with_reducible refine (laws_szPlanBase.calls k _ _ l0_0 _ _ l0_1 1048576 t193 _ ?side1 ?side2 ?side3 ?side4 A2.out).mono ?_); (case side1 => exact zC HR0_0 HB); (case side2 => exact HC0_0.out); (case side3 => exact zC HR0_1 HB); (case side4 => exact HC0_1.out); rintro e w54 ⟨rfl, hb⟩; refine ⟨_, rfl, ?_⟩; replace BK192 := zb BK192 hb; replace HB := zE (zs1 HB GE192) hb; (try clear hb); (try clear hb2); (try clear hk); (try clear hi); obtain ⟨hcz55_0, hcz55_1⟩ := zd2 BK192; obtain ⟨hfz55_0, hfz55_1⟩ := zn2 BK192) | ((with_reducible refine gate_callee (f := 6) rfl ?_); refine zgl (N := some 13) Try.func6 #[.agg #[.slice A0_0 l0_0.length c0_0, .slice A0_1 l0_1.length c0_1]] ?_; (with_reducible refine (laws_toPlanBase.calls k _ _ l0_0 _ _ l0_1 t194 t197 _ ?side1 ?side2 ?side3 ?side4 A7.out).mono ?_); (case side1 => exact zC HR0_0 HB); (case side2 => exact HC0_0.out); (case side3 => exact zC HR0_1 HB); (case side4 => exact HC0_1.out); rintro e w56 ⟨v195, v198, rfl, ho0, ho1, hb⟩; refine ⟨_, rfl, ?_⟩; have HO196 := Aside0.mk (Kd.R_lower ho0 (below_size (zs1 HB GE192))); have HO199 := Aside0.mk (Kd.R_lower ho1 (below_size (zs1 HB GE192))); replace BK192 := zb BK192 hb; replace HB := zE (zs1 HB GE192) hb; (try clear hb); (try clear hb2); (try clear hk); (try clear hi); (try clear ho0); (try clear ho1); obtain ⟨Ao57, co57, eo57⟩ := Kd.R_slice HO196.out; subst eo57; obtain ⟨Ao58, co58, eo58⟩ := Kd.R_slice HO199.out; subst eo58) | ((with_reducible refine gate_callee (f := 5) rfl ?_); refine zgl (N := some 14) Try.func5 #[.agg #[.slice Ao57 t194.length co57, .slice Ao58 t197.length co58]] ?_; (with_reducible refine (spec_PlanBaseOk.calls k _ _ t194 _ _ t197 t200 _ ?side1 ?side2 ?side3 ?side4 A8.out).mono ?_); (case side1 => repeat (first | exact (Kd.R_reads' HO196.out).2.2 | (with_reducible refine Kd.C_alloc ?_ _) | (with_reducible refine Kd.C_drewN ?_ _) | (with_reducible refine Kd.C_drew ?_))); (case side2 => exact (Kd.R_reads' HO196.out).2.1); (case side3 => repeat (first | exact (Kd.R_reads' HO199.out).2.2 | (with_reducible refine Kd.C_alloc ?_ _) | (with_reducible refine Kd.C_drewN ?_ _) | (with_reducible refine Kd.C_drew ?_))); (case side4 => exact (Kd.R_reads' HO199.out).2.1); rintro e w59 ⟨rfl, hb⟩; refine ⟨_, rfl, ?_⟩; replace HO196 := Aside0.mk (Kd.R_below (zr HO196) hb); replace HO199 := Aside0.mk (Kd.R_below (zr HO199) hb); replace BK192 := zb BK192 hb; replace HB := zE (zs1 HB GE192) hb; (try clear hb); (try clear hb2); (try clear hk); (try clear hi); obtain ⟨hcz60_0, hcz60_1⟩ := zd2 BK192; obtain ⟨hfz60_0, hfz60_1⟩ := zn2 BK192) | ((with_reducible refine gate_callee (f := 6) rfl ?_); refine zgl (N := some 16) Try.func6 #[.agg #[.slice A0_0 l0_0.length c0_0, .slice A0_1 l0_1.length c0_1]] ?_; (with_reducible refine (laws_toPlanBase.calls k _ _ l0_0 _ _ l0_1 t201 t204 _ ?side1 ?side2 ?side3 ?side4 A9.out).mono ?_); (case side1 => exact zC HR0_0 HB); (case side2 => exact HC0_0.out); (case side3 => exact zC HR0_1 HB); (case side4 => exact HC0_1.out); rintro e w61 ⟨v202, v205, rfl, ho0, ho1, hb⟩; refine ⟨_, rfl, ?_⟩; have HO203 := Aside0.mk (Kd.R_lower (Kd.R_new' ho0 (Kd.R_lt (zr HO196))) (below_size (zs1 HB GE192))); have HO206 := Aside0.mk (Kd.R_lower (Kd.R_new' ho1 (Kd.R_lt (zr HO199))) (below_size (zs1 HB GE192))); replace HO196 := Aside0.mk (Kd.R_elder' (zr HO196) (Kd.R_base ho0) hb); replace HO199 := Aside0.mk (Kd.R_elder' (zr HO199) (Kd.R_base ho1) hb); replace BK192 := zb BK192 hb; replace HB := zE (zs1 HB GE192) hb; (try clear hb); (try clear hb2); (try clear hk); (try clear hi); (try clear ho0); (try clear ho1)) | ((with_reducible refine gate_dst (N := 5) rfl ?_); refine zbx 5 #[.slice none 0 0, .slice none 0 0] 31 ?_; intro gb207 hg w62 hbox hb; have BK207 := zA hbox; have GW207 := zgs hg (zs1 HB GE192); have GE207 := zgs hg (zs1 HB GE192); have NB192_207 := zne hg BK192; have NB207_192 := znf hg BK192; replace HO196 := Aside0.mk (Kd.R_below (zr HO196) hb); replace HO199 := Aside0.mk (Kd.R_below (zr HO199) hb); replace HO203 := Aside0.mk (Kd.R_below (zr HO203) hb); replace HO206 := Aside0.mk (Kd.R_below (zr HO206) hb); replace BK192 := zb BK192 hb; replace HB := zE (zs1 HB GE192) hb; clear hb hbox hg; obtain ⟨Ao63, co63, eo63⟩ := Kd.R_slice HO203.out; subst eo63; have hnb64 := NB207_192.out; have hnc64 := NB192_207.out; obtain ⟨hcz65_0, hcz65_1⟩ := zd2 BK207; obtain ⟨hfz65_0, hfz65_1⟩ := zn2 BK207; obtain ⟨Ao66, co66, eo66⟩ := Kd.R_slice HO206.out; subst eo66) | ((with_reducible refine gate_callee (f := 7) rfl ?_); refine zgl (N := some 18) Try.func7 #[.agg #[.slice Ao63 t201.length co63, .slice Ao66 t204.length co66]] ?_; (with_reducible refine (impl_PlanBaseOk.calls k _ _ t201 _ _ t204 t208 _ ?side1 ?side2 ?side3 ?side4 A10.out).mono ?_); (case side1 => refine (Kd.R_reads' (e := 39) (base := w.heap.size) (ok := fun k_ => (True ∧ some k_ ≠ (.slice Ao57 t194.length co57 : Value).ownBlock)) (n := t201.length) (c := co63) ?_).2.2; exact (zRf HO203 BK207 (fun _ h_ => h_.1))); (case side2 => exact (Kd.R_reads' HO203.out).2.1); (case side3 => refine (Kd.R_reads' (e := 42) (base := w.heap.size) (ok := fun k_ => (True ∧ some k_ ≠ (.slice Ao58 t197.length co58 : Value).ownBlock)) (n := t204.length) (c := co66) ?_).2.2; exact (zRf HO206 BK207 (fun _ h_ => h_.1))); (case side4 => exact (Kd.R_reads' HO206.out).2.1); rintro e w67 ⟨rfl, hb⟩; refine ⟨_, rfl, ?_⟩; replace HO196 := Aside0.mk (Kd.R_below (zRf HO196 BK207 (fun _ h_ => h_.1)) hb); replace HO199 := Aside0.mk (Kd.R_below (zRf HO199 BK207 (fun _ h_ => h_.1)) hb); replace HO203 := Aside0.mk (Kd.R_below (zRf HO203 BK207 (fun _ h_ => h_.1)) hb); replace HO206 := Aside0.mk (Kd.R_below (zRf HO206 BK207 (fun _ h_ => h_.1)) hb); replace BK192 := Aside0.mk (blk_below (g := gb192) (o := .cells #[.slice A0_0 l0_0.length c0_0, .slice A0_1 l0_1.length c0_1] 25 (0, 0)) (zpf BK192 NB192_207) hb); replace BK207 := Aside0.mk (blk_below (g := gb207) (o := .cells #[.slice Ao63 t201.length co63, .slice Ao66 t204.length co66] 31 (0, 0)) (zpb BK207) hb); replace HB := zE (zs2 HB GE192 GE207) hb; (try clear hb); (try clear hb2); (try clear hk); (try clear hi)))
 replace HO196 := Aside0.mk (Kd.R_drew HO196.out)
 replace HO199 := Aside0.mk (Kd.R_drew HO199.out)
 replace HO203 := Aside0.mk (Kd.R_drew HO203.out)
 replace HO206 := Aside0.mk (Kd.R_drew HO206.out)
 replace BK192 := Aside0.mk (blk_drew BK192.out)
 replace BK207 := Aside0.mk (blk_drew BK207.out)
 replace HB := Aside0.mk (below_drew1 HB.out)
 refine start_ (n := 5) (S := fun w' => w'.cell? ⟨gb207, 0, none⟩ = some (.slice Ao63 t201.length co63) ∧ w'.cell? ⟨gb207, 1, none⟩ = some (.slice Ao66 t204.length co66) ∧ w'.cell? ⟨gb192, 0, none⟩ = some (.slice A0_0 l0_0.length c0_0) ∧ w'.cell? ⟨gb192, 1, none⟩ = some (.slice A0_1 l0_1.length c0_1)) (ds := []) #[false, false, false, false, false] (by kernel_rfl) rfl rfl ⟨zc0 BK207, zc1 BK207, zc0 BK192, zc1 BK192⟩ (fun hHeld => ?_)
 generalize w67.drew = w68 at HO196 HO199 HO203 HO206 BK192 BK207 HB hHeld ⊢
 refine take_ (i := 0) (N := some 22) (v := ?_) (a' := ?_) #[true, false, false, false, false] rfl rfl (by kernel_rfl) (fun _ _ _ h => h) (Or.inl ⟨by rfl, ?_⟩) hHeld ?_ ?_; rotate_left; exact zt4; rotate_left; exact zput
 refine take_ (i := 1) (N := some 23) (v := ?_) (a' := ?_) #[true, true, false, false, false] rfl rfl (by kernel_rfl) (fun _ _ _ h => h) (Or.inl ⟨by rfl, ?_⟩) hHeld ?_ ?_; rotate_left; exact zt4; rotate_left; exact zput
 refine one_ (i := 2) (N := some 24) #[true, true, true, false, false] rfl rfl (by kernel_rfl) (by decide) (fun K hK => ?_)
 refine zgo Try.func6 #[.agg #[.slice A0_0 l0_0.length c0_0, .slice A0_1 l0_1.length c0_1]] ?_
 with_reducible refine (laws_toPlanBase.calls k _ _ l0_0 _ _ l0_1 t209 t212 _ ?side1 ?side2 ?side3 ?side4 A28.out).mono ?_
 (case side1 => exact zC HR0_0 HB)
 (case side2 => exact HC0_0.out)
 (case side3 => exact zC HR0_1 HB)
 (case side4 => exact HC0_1.out)
 rintro e w69 ⟨v210, v213, rfl, ho0, ho1, hb⟩
 refine ⟨_, rfl, ?_⟩
 have HO211 := Aside0.mk (Kd.R_lower (Kd.R_new' (Kd.R_new' ho0 (Kd.R_lt (zr HO196))) (Kd.R_lt (zr HO203))) (below_size (zs2 HB GE192 GE207)))
 have HO214 := Aside0.mk (Kd.R_lower (Kd.R_new' (Kd.R_new' ho1 (Kd.R_lt (zr HO199))) (Kd.R_lt (zr HO206))) (below_size (zs2 HB GE192 GE207)))
 replace HO196 := Aside0.mk (Kd.R_elder' (zr HO196) (Kd.R_base ho0) hb)
 replace HO199 := Aside0.mk (Kd.R_elder' (zr HO199) (Kd.R_base ho1) hb)
 replace HO203 := Aside0.mk (Kd.R_elder' (zr HO203) (Kd.R_base ho0) hb)
 replace HO206 := Aside0.mk (Kd.R_elder' (zr HO206) (Kd.R_base ho1) hb)
 replace BK192 := zb BK192 hb
 replace BK207 := zb BK207 hb
 replace HB := zE (zs2 HB GE192 GE207) hb
 (try clear hb)
 (try clear hb2)
 (try clear hk)
 (try clear hi)
 (try clear ho0)
 (try clear ho1)
 obtain ⟨Ao70, co70, eo70⟩ := Kd.R_slice HO211.out
 (first | subst eo70 | (injection eo70 with f1_ f2_ f3_; have f4_ := f1_.symm; have f5_ := f3_.symm; clear f1_ f2_ f3_; subst f4_; subst f5_))
 obtain ⟨Ao71, co71, eo71⟩ := Kd.R_slice HO214.out
 (first | subst eo71 | (injection eo71 with f1_ f2_ f3_; have f4_ := f1_.symm; have f5_ := f3_.symm; clear f1_ f2_ f3_; subst f4_; subst f5_))
 refine hK.out _ _ ⟨zc0 BK207, zc1 BK207, zc0 BK192, zc1 BK192⟩ (fun hHeld => ?_)
 clear hK K
 refine zN ?_
 refine one_ (i := 3) (N := some 25) #[true, true, true, true, false] rfl rfl (by kernel_rfl) (by decide) (fun K hK => ?_)
 refine zgo Try.func8 #[.agg #[.slice Ao63 t201.length co63, .slice Ao66 t204.length co66], .agg #[.slice Ao70 t209.length co70, .slice Ao71 t212.length co71]] ?_
 with_reducible refine (laws_eqPlanBase.calls k _ _ t201 _ _ t204 _ _ t209 _ _ t212 false _ ?side1 ?side2 ?side3 ?side4 ?side5 ?side6 ?side7 ?side8 A29.out).mono ?_
 (case side1 => repeat (first | exact (Kd.R_reads' HO203.out).2.2 | (with_reducible refine Kd.C_alloc ?_ _) | (with_reducible refine Kd.C_drewN ?_ _) | (with_reducible refine Kd.C_drew ?_)))
 (case side2 => exact (Kd.R_reads' HO203.out).2.1)
 (case side3 => repeat (first | exact (Kd.R_reads' HO206.out).2.2 | (with_reducible refine Kd.C_alloc ?_ _) | (with_reducible refine Kd.C_drewN ?_ _) | (with_reducible refine Kd.C_drew ?_)))
 (case side4 => exact (Kd.R_reads' HO206.out).2.1)
 (case side5 => repeat (first | exact (Kd.R_reads' HO211.out).2.2 | (with_reducible refine Kd.C_alloc ?_ _) | (with_reducible refine Kd.C_drewN ?_ _) | (with_reducible refine Kd.C_drew ?_)))
 (case side6 => exact (Kd.R_reads' HO211.out).2.1)
 (case side7 => repeat (first | exact (Kd.R_reads' HO214.out).2.2 | (with_reducible refine Kd.C_alloc ?_ _) | (with_reducible refine Kd.C_drewN ?_ _) | (with_reducible refine Kd.C_drew ?_)))
 (case side8 => exact (Kd.R_reads' HO214.out).2.1)
 rintro e w72 ⟨rfl, hb⟩
 refine ⟨_, rfl, ?_⟩
 replace HO196 := Aside0.mk (Kd.R_below (zr HO196) hb)
 replace HO199 := Aside0.mk (Kd.R_below (zr HO199) hb)
 replace HO203 := Aside0.mk (Kd.R_below (zr HO203) hb)
 replace HO206 := Aside0.mk (Kd.R_below (zr HO206) hb)
 replace HO211 := Aside0.mk (Kd.R_below (zr HO211) hb)
 replace HO214 := Aside0.mk (Kd.R_below (zr HO214) hb)
 replace BK192 := zb BK192 hb
 replace BK207 := zb BK207 hb
 replace HB := zE (zs2 HB GE192 GE207) hb
 (try clear hb)
 (try clear hb2)
 (try clear hk)
 (try clear hi)
 refine hK.out _ _ ⟨zc0 BK207, zc1 BK207, zc0 BK192, zc1 BK192⟩ (fun hHeld => ?_)
 clear hK K
 refine zN ?_
 refine zp 4 ?_
 refine done_ (by kernel_rfl) ?_
 try go_wp2
 go_ret
 exact ⟨ze, zs2 HB GE192 GE207⟩
end Go.Proofs.Ytleenmphhlioaaa.QFnExactPlanBaseOk
