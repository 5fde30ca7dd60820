/- The walk of what the law FnExactFlyRest reaches: laid by a program of this session (ownprint.py). -/
import Derived.Test.YtbmplfpnhjhoiaaQFnExactFlyRestx0
import Derived.Test.YtbmplfpnhjhoiaaQFnExactFlyRestx5
import Derived.Test.YtbmplfpnhjhoiaaQFnExactFlyRestx8
namespace Go.Proofs.Ytbmplfpnhjhoiaa.QFnExactFlyRest
open Go.RowKit Go.Proofs.YtbmplfpnhjhoiaaW.PrintWords Go.Proofs.YtbmplfpnhjhoiaaW.PrintLast Go.Proofs.YtbmplfpnhjhoiaaW.PrintMore Go.Proofs.Ytbmplfpnhjhoiaa.Z
attribute [local go_sem] max2_int min2_int max_two min_two max_three min_three max_four min_four zdn   -- for this text's walks alone
set_option linter.unusedVariables false
set_option linter.unusedSimpArgs false
def spec_l27Can.f (k : Nat) (a0_0 : Int) (a0_1 : Int) (l0_2 : List (S132)) (a0_3 : Int) (a0_4 : Int) : Option (Int × Int × (List (S132)) × Int × Int × Bool) := (spec_l24Spans.f k a0_0 a0_1 l0_2 a0_3 a0_4).bind fun bt267 => (if bt267.2 = true then (some (a0_0, a0_1, l0_2, a0_3, a0_4, true)) else (some (0, 0, ([] : List (S132)), 0, 0, false)))
set_option maxHeartbeats 8000000 in
set_option maxRecDepth 100000 in
theorem spec_l27Can.calls (k : Nat) (a0_0 : Int) (a0_1 : Int) (P0_2_ : Nat → Prop) (u9000_ : Value) (l0_2 : List (S132)) (a0_3 : Int) (a0_4 : Int) (r1 : Int) (r2 : Int) (r3 : List (S132)) (r4 : Int) (r5 : Int) (r6 : Bool) (w0 w : World) (hB : Below w0.heap.size w0 w) (ho0_2 : Kd.R k132 132 w w0.heap.size P0_2_ u9000_ l0_2) (h : spec_l27Can.f k a0_0 a0_1 l0_2 a0_3 a0_4 = some (r1, r2, r3, r4, r5, r6)) :
 Calls Try.prog 131 #[.agg #[.int .i64 a0_0, .int .i64 a0_1, u9000_, .int .i64 a0_3, .int .i64 a0_4]] w fun e w' => ∃ v2_ : Value, e = .returned (.tuple #[.agg #[.int .i64 r1, .int .i64 r2, v2_, .int .i64 r4, .int .i64 r5], .bool r6]) ∧ Kd.R k132 132 w' w0.heap.size (fun k_ => (P0_2_ k_ ∨ w.heap.size ≤ k_)) v2_ r3 ∧ Below w0.heap.size w0 w' ∧ Kept w w' (fun k_ => P0_2_ k_) := by
 have hu68 := Try.underlying68
 have HO0_2 := zA (show Kd.R k132 132 w w0.heap.size (fun k_ => (P0_2_ k_ ∨ w.heap.size ≤ k_)) u9000_ l0_2 from Kd.R_mono ho0_2 (fun k_ hk => (.inl hk)))
 have HK := zA (Kept.refl w (fun k_ => P0_2_ k_))
 have HW0 := zA hB.size
 have HB := zA hB
 clear hB
 have H : ((spec_l24Spans.f k a0_0 a0_1 l0_2 a0_3 a0_4).bind fun bt267 => (if bt267.2 = true then (some (a0_0, a0_1, l0_2, a0_3, a0_4, true)) else (some (0, 0, ([] : List (S132)), 0, 0, false)))) = some (r1, r2, r3, r4, r5, r6) := h
 clear h
 replace H := Option.bind_eq_some_iff.mp H
 obtain ⟨⟨t267, t270⟩, A20, H⟩ := H
 replace H : (if t270 = true then (some (a0_0, a0_1, l0_2, a0_3, a0_4, true)) else (some (0, 0, ([] : List (S132)), 0, 0, false))) = some (r1, r2, r3, r4, r5, r6) := H
 have A2 := zA A20
 clear A20
 by_cases c3 : t270 = true
 rotate_left
 ·replace c3 := Bool.eq_false_iff.mpr c3
  subst c3
  have H1 : (some (0, 0, ([] : List (S132)), 0, 0, false)) = some (r1, r2, r3, r4, r5, r6) := by rw [if_neg (show ¬ (false = true) by decide)] at H; exact H
  clear H
  have H := H1
  clear H1
  simp only [Option.some.injEq, Prod.mk.injEq] at H
  obtain ⟨rfl, rfl, rfl, rfl, rfl, rfl⟩ := H
  obtain ⟨Ao12, co12, eo12⟩ := Kd.R_slice HO0_2.out
  subst eo12
  go_enter Try.func131, Try.ntmps131
  go_wp2_with (first | ((with_reducible refine gate_dst (N := 1) rfl ?_); refine zbx 1 #[.int .i64 a0_0, .int .i64 a0_1, .slice Ao12 l0_2.length co12, .int .i64 a0_3, .int .i64 a0_4] 68 ?_; intro gb265 hg w13 hbox hb; have BK265 := zA hbox; have GW265 := zA ((by rw [hg]; exact (by first | exact HK.out.1 | exact (show Kept w _ (fun k_ => P0_2_ k_) from by repeat (first | (with_reducible first | exact HK.out | apply Kept.alloc | apply Kept.drewN | apply Kept.drew) | exact HK.out)).1) : w.heap.size ≤ gb265)); have GE265 := zA ((by rw [hg]; exact (below_size (zs0 HB)) : w0.heap.size ≤ gb265)); replace HO0_2 := zA (Kd.R_below (zr HO0_2) hb); replace HK := zA (Kept.below (S := (fun k_ => P0_2_ k_)) (by repeat (first | (with_reducible first | exact HK.out | apply Kept.alloc | apply Kept.drewN | apply Kept.drew) | exact HK.out)) hb); replace HB := zE (zs0 HB) hb; clear hb hbox hg) | ((with_reducible refine gate_dst (N := 2) rfl ?_); refine zbx 2 #[.int .i64 0, .int .i64 0, .slice none 0 0, .int .i64 0, .int .i64 0] 68 ?_; intro gb266 hg w14 hbox hb; have BK266 := zA hbox; have GW266 := zA ((by rw [hg]; exact (by first | exact HK.out.1 | exact (show Kept w _ (fun k_ => P0_2_ k_) from by repeat (first | (with_reducible first | exact HK.out | apply Kept.alloc | apply Kept.drewN | apply Kept.drew | refine Kept.setCell ?_ (.inr GW265.out) _) | exact HK.out)).1) : w.heap.size ≤ gb266)); have GE266 := zA ((by rw [hg]; exact (below_size (zs1 HB GE265)) : w0.heap.size ≤ gb266)); have NB265_266 := zne hg BK265; have NB266_265 := znf hg BK265; replace HO0_2 := zA (Kd.R_below (zr HO0_2) hb); replace BK265 := zb BK265 hb; replace HK := zA (Kept.below (S := (fun k_ => P0_2_ k_)) (by repeat (first | (with_reducible first | exact HK.out | apply Kept.alloc | apply Kept.drewN | apply Kept.drew | refine Kept.setCell ?_ (.inr GW265.out) _) | exact HK.out)) hb); replace HB := zE (zs1 HB GE265) hb; clear hb hbox hg; have hnb15 := NB265_266.out; have hnc15 := NB266_265.out; obtain ⟨hcz16_0, hcz16_1, hcz16_2, hcz16_3, hcz16_4⟩ := zd5 BK265; obtain ⟨hfz16_0, hfz16_1, hfz16_2, hfz16_3, hfz16_4⟩ := zn5 BK265) | ((with_reducible refine gate_callee (f := 121) rfl ?_); refine zgl (N := some 8) Try.func121 #[.agg #[.int .i64 a0_0, .int .i64 a0_1, .slice Ao12 l0_2.length co12, .int .i64 a0_3, .int .i64 a0_4]] ?_; (with_reducible refine (spec_l24Spans.calls k a0_0 a0_1 _ _ l0_2 a0_3 a0_4 t267 false _ ?side1 ?side2 A2.out).mono ?_); (case side1 => repeat (first | exact (Kd.R_reads' HO0_2.out).2.2 | (with_reducible refine Kd.C_alloc ?_ _) | (with_reducible refine Kd.C_drewN ?_ _) | (with_reducible refine Kd.C_drew ?_))); (case side2 => exact (Kd.R_reads' HO0_2.out).2.1); rintro e w17 ⟨v268, rfl, ho0, hb⟩; refine ⟨_, rfl, ?_⟩; have HO269 := zA (Kd.R_lower (Kd.R_newM (M := fun k_ => (P0_2_ k_ ∨ w.heap.size ≤ k_)) ho0 (by first | exact HK.out.1 | exact (show Kept w _ (fun k_ => P0_2_ k_) from by repeat (first | (with_reducible first | exact HK.out | apply Kept.alloc | apply Kept.drewN | apply Kept.drew | refine Kept.setCell ?_ (.inr GW265.out) _ | refine Kept.setCell ?_ (.inr GW266.out) _) | exact HK.out)).1) (fun k_ h_ => .inr h_)) (below_size (zs2 HB GE265 GE266))); replace HO0_2 := zA (Kd.R_below (zr HO0_2) hb); replace BK265 := zb BK265 hb; replace BK266 := zb BK266 hb; replace HK := zA (Kept.below (S := (fun k_ => P0_2_ k_)) (by repeat (first | (with_reducible first | exact HK.out | apply Kept.alloc | apply Kept.drewN | apply Kept.drew | refine Kept.setCell ?_ (.inr GW265.out) _ | refine Kept.setCell ?_ (.inr GW266.out) _) | exact HK.out)) hb); replace HB := zE (zs2 HB GE265 GE266) hb; (try clear hb); (try clear hb2); (try clear hk); (try clear hi); (try clear ho0); obtain ⟨hcz18_0, hcz18_1, hcz18_2, hcz18_3, hcz18_4⟩ := zd5 BK266; obtain ⟨hfz18_0, hfz18_1, hfz18_2, hfz18_3, hfz18_4⟩ := zn5 BK266))
  refine bodyPost_ret (results_ct rfl _ _ gb266 68 #[.int .i64 0, .int .i64 0, .slice none 0 0, .int .i64 0, .int .i64 0] (0, 0) _ rfl ?hz Try.underlying68 rfl (by kernel_rfl)) rfl ?_; (case hz => exact zpb BK266)
  exact ⟨_, ze, by first | exact Kd.R_nil _ _ _ _ _ | exact Kd.N_nil _ _ _ _ _ | exact Kd.V_nil _ _ _ _ _ | exact Kd.Q_nil _ _ _ _ _ | exact Kd.S_nil _ _ _ _ _, zs2 HB GE265 GE266, by repeat (first | (with_reducible first | exact HK.out | apply Kept.alloc | apply Kept.drewN | apply Kept.drew | refine Kept.setCell ?_ (.inr GW265.out) _ | refine Kept.setCell ?_ (.inr GW266.out) _) | exact HK.out)⟩
 subst c3
 have H1 : (some (a0_0, a0_1, l0_2, a0_3, a0_4, true)) = some (r1, r2, r3, r4, r5, r6) := by rw [if_pos rfl] at H; exact H
 clear H
 have H := H1
 clear H1
 simp only [Option.some.injEq, Prod.mk.injEq] at H
 obtain ⟨rfl, rfl, rfl, rfl, rfl, rfl⟩ := H
 obtain ⟨Ao4, co4, eo4⟩ := Kd.R_slice HO0_2.out
 subst eo4
 go_enter Try.func131, Try.ntmps131
 go_wp2_with (first | ((with_reducible refine gate_dst (N := 1) rfl ?_); refine zbx 1 #[.int .i64 a0_0, .int .i64 a0_1, .slice Ao4 l0_2.length co4, .int .i64 a0_3, .int .i64 a0_4] 68 ?_; intro gb265 hg w5 hbox hb; have BK265 := zA hbox; have GW265 := zA ((by rw [hg]; exact (by first | exact HK.out.1 | exact (show Kept w _ (fun k_ => P0_2_ k_) from by repeat (first | (with_reducible first | exact HK.out | apply Kept.alloc | apply Kept.drewN | apply Kept.drew) | exact HK.out)).1) : w.heap.size ≤ gb265)); have GE265 := zA ((by rw [hg]; exact (below_size (zs0 HB)) : w0.heap.size ≤ gb265)); replace HO0_2 := zA (Kd.R_below (zr HO0_2) hb); replace HK := zA (Kept.below (S := (fun k_ => P0_2_ k_)) (by repeat (first | (with_reducible first | exact HK.out | apply Kept.alloc | apply Kept.drewN | apply Kept.drew) | exact HK.out)) hb); replace HB := zE (zs0 HB) hb; clear hb hbox hg) | ((with_reducible refine gate_dst (N := 2) rfl ?_); refine zbx 2 #[.int .i64 0, .int .i64 0, .slice none 0 0, .int .i64 0, .int .i64 0] 68 ?_; intro gb266 hg w6 hbox hb; have BK266 := zA hbox; have GW266 := zA ((by rw [hg]; exact (by first | exact HK.out.1 | exact (show Kept w _ (fun k_ => P0_2_ k_) from by repeat (first | (with_reducible first | exact HK.out | apply Kept.alloc | apply Kept.drewN | apply Kept.drew | refine Kept.setCell ?_ (.inr GW265.out) _) | exact HK.out)).1) : w.heap.size ≤ gb266)); have GE266 := zA ((by rw [hg]; exact (below_size (zs1 HB GE265)) : w0.heap.size ≤ gb266)); have NB265_266 := zne hg BK265; have NB266_265 := znf hg BK265; replace HO0_2 := zA (Kd.R_below (zr HO0_2) hb); replace BK265 := zb BK265 hb; replace HK := zA (Kept.below (S := (fun k_ => P0_2_ k_)) (by repeat (first | (with_reducible first | exact HK.out | apply Kept.alloc | apply Kept.drewN | apply Kept.drew | refine Kept.setCell ?_ (.inr GW265.out) _) | exact HK.out)) hb); replace HB := zE (zs1 HB GE265) hb; clear hb hbox hg; have hnb7 := NB265_266.out; have hnc7 := NB266_265.out; obtain ⟨hcz8_0, hcz8_1, hcz8_2, hcz8_3, hcz8_4⟩ := zd5 BK265; obtain ⟨hfz8_0, hfz8_1, hfz8_2, hfz8_3, hfz8_4⟩ := zn5 BK265) | ((with_reducible refine gate_callee (f := 121) rfl ?_); refine zgl (N := some 8) Try.func121 #[.agg #[.int .i64 a0_0, .int .i64 a0_1, .slice Ao4 l0_2.length co4, .int .i64 a0_3, .int .i64 a0_4]] ?_; (with_reducible refine (spec_l24Spans.calls k a0_0 a0_1 _ _ l0_2 a0_3 a0_4 t267 true _ ?side1 ?side2 A2.out).mono ?_); (case side1 => repeat (first | exact (Kd.R_reads' HO0_2.out).2.2 | (with_reducible refine Kd.C_alloc ?_ _) | (with_reducible refine Kd.C_drewN ?_ _) | (with_reducible refine Kd.C_drew ?_))); (case side2 => exact (Kd.R_reads' HO0_2.out).2.1); rintro e w9 ⟨v268, rfl, ho0, hb⟩; refine ⟨_, rfl, ?_⟩; have HO269 := zA (Kd.R_lower (Kd.R_newM (M := fun k_ => (P0_2_ k_ ∨ w.heap.size ≤ k_)) ho0 (by first | exact HK.out.1 | exact (show Kept w _ (fun k_ => P0_2_ k_) from by repeat (first | (with_reducible first | exact HK.out | apply Kept.alloc | apply Kept.drewN | apply Kept.drew | refine Kept.setCell ?_ (.inr GW265.out) _ | refine Kept.setCell ?_ (.inr GW266.out) _) | exact HK.out)).1) (fun k_ h_ => .inr h_)) (below_size (zs2 HB GE265 GE266))); replace HO0_2 := zA (Kd.R_below (zr HO0_2) hb); replace BK265 := zb BK265 hb; replace BK266 := zb BK266 hb; replace HK := zA (Kept.below (S := (fun k_ => P0_2_ k_)) (by repeat (first | (with_reducible first | exact HK.out | apply Kept.alloc | apply Kept.drewN | apply Kept.drew | refine Kept.setCell ?_ (.inr GW265.out) _ | refine Kept.setCell ?_ (.inr GW266.out) _) | exact HK.out)) hb); replace HB := zE (zs2 HB GE265 GE266) hb; (try clear hb); (try clear hb2); (try clear hk); (try clear hi); (try clear ho0); obtain ⟨hcz10_0, hcz10_1, hcz10_2, hcz10_3, hcz10_4⟩ := zd5 BK265; obtain ⟨hfz10_0, hfz10_1, hfz10_2, hfz10_3, hfz10_4⟩ := zn5 BK265; obtain ⟨hcz11_0, hcz11_1, hcz11_2, hcz11_3, hcz11_4⟩ := zd5 BK266; obtain ⟨hfz11_0, hfz11_1, hfz11_2, hfz11_3, hfz11_4⟩ := zn5 BK266))
 refine bodyPost_ret (results_ct rfl _ _ gb266 68 #[.int .i64 a0_0, .int .i64 a0_1, .slice Ao4 l0_2.length co4, .int .i64 a0_3, .int .i64 a0_4] (0, 0) _ rfl ?hz Try.underlying68 rfl (by kernel_rfl)) rfl ?_; (case hz => exact zpb BK266)
 exact ⟨_, ze, by (with_reducible repeat (first | apply Kd.R_alloc | apply Kd.R_drewN | apply Kd.R_drew)); exact Kd.R_mono (Kd.R_far (p := ⟨gb266, 4, none⟩) (Kd.R_far (p := ⟨gb266, 3, none⟩) (Kd.R_far (p := ⟨gb266, 2, none⟩) (Kd.R_far (p := ⟨gb266, 1, none⟩) (Kd.R_far (p := ⟨gb266, 0, none⟩) (Kd.R_types HO0_2.out BK266.out (by decide)) (fun _ hk => hk.2) (.int .i64 a0_0)) (fun _ hk => hk.2) (.int .i64 a0_1)) (fun _ hk => hk.2) (.slice Ao4 l0_2.length co4)) (fun _ hk => hk.2) (.int .i64 a0_3)) (fun _ hk => hk.2) (.int .i64 a0_4)) (fun _ hk => hk.1), zs2 HB GE265 GE266, by repeat (first | (with_reducible first | exact HK.out | apply Kept.alloc | apply Kept.drewN | apply Kept.drew | refine Kept.setCell ?_ (.inr GW265.out) _ | refine Kept.setCell ?_ (.inr GW266.out) _) | exact HK.out)⟩
def spec_l27After.f (a0_0 : Int) (a0_1 : Int) (l0_2 : List (S132)) (a0_3 : Int) (a0_4 : Int) (a1 : Int) : Option (Int × Int × (List (S132)) × Int × Int) := if (l0_2.length : Int) > 1 then (if 1 < (l0_2.length : Int) then ((spec_l21Max.f ((rd_T132 l0_2 1).f4) (wrap64 (a1 + 1))).bind fun t274 => (some (a0_0, a0_1, (l0_2.set (1 : Int).toNat (⟨(rd_T132 l0_2 1).f0, (rd_T132 l0_2 1).f1, (rd_T132 l0_2 1).f2, (rd_T132 l0_2 1).f3, t274, (rd_T132 l0_2 1).f5, (rd_T132 l0_2 1).f6⟩ : S132)), a0_3, a0_4))) else (none)) else ((spec_l21Max.f a0_3 (wrap64 (a1 + 1))).bind fun t276 => (some (a0_0, a0_1, l0_2, t276, a0_4)))
def spec_l27After.T2 : Bool × List (List Nat × List Nat) := (true, [([], []), ([0], [0]), ([], []), ([2], [2]), ([3], [3]), ([4], [4]), ([5], [5]), ([], []), ([7], [7]), ([6, 8], [6, 8]), ([1, 0, 1, 2, 3, 4, 5, 6, 7, 8, 9], [1]), ([10, 0, 1, 2, 3, 4, 5, 6, 7, 8, 9], [10]), ([11, 9, 9, 0, 1, 2, 3, 4, 5, 6, 7, 8, 9], [9, 11])])
def spec_l27After.B2 : List Nat := [0, 1, 0, 4, 12, 28, 60, 0, 128, 508, 1023, 2047, 4095]
theorem spec_l27After.tab2 : rtab .any (opsOf Try.f132 2) = spec_l27After.T2 := by kernel_rfl
theorem spec_l27After.bits2 : waitsOk spec_l27After.T2.2 spec_l27After.B2 = true := by kernel_rfl
set_option maxHeartbeats 8000000 in
set_option maxRecDepth 100000 in
theorem spec_l27After.calls (a0_0 : Int) (a0_1 : Int) (P0_2_ : Nat → Prop) (u9000_ : Value) (l0_2 : List (S132)) (a0_3 : Int) (a0_4 : Int) (a1 : Int) (r1 : Int) (r2 : Int) (r3 : List (S132)) (r4 : Int) (r5 : Int) (w0 w : World) (hB : Below w0.heap.size w0 w) (ho0_2 : Kd.R k132 132 w w0.heap.size P0_2_ u9000_ l0_2) (h : spec_l27After.f a0_0 a0_1 l0_2 a0_3 a0_4 a1 = some (r1, r2, r3, r4, r5)) :
 Calls Try.prog 132 #[.agg #[.int .i64 a0_0, .int .i64 a0_1, u9000_, .int .i64 a0_3, .int .i64 a0_4], .int .i64 a1] w fun e w' => ∃ v2_ : Value, e = .returned (.agg #[.int .i64 r1, .int .i64 r2, v2_, .int .i64 r4, .int .i64 r5]) ∧ Kd.R k132 132 w' w0.heap.size (fun k_ => (P0_2_ k_ ∨ w.heap.size ≤ k_)) v2_ r3 ∧ Below w0.heap.size w0 w' ∧ Kept w w' (fun k_ => P0_2_ k_) := by
 have hu68 := Try.underlying68
 have HO0_2 := zA (show Kd.R k132 132 w w0.heap.size (fun k_ => (P0_2_ k_ ∨ w.heap.size ≤ k_)) u9000_ l0_2 from Kd.R_mono ho0_2 (fun k_ hk => (.inl hk)))
 have HK := zA (Kept.refl w (fun k_ => P0_2_ k_))
 have HW0 := zA hB.size
 have HB := zA hB
 clear hB
 have H : (if (l0_2.length : Int) > 1 then (if 1 < (l0_2.length : Int) then ((spec_l21Max.f ((rd_T132 l0_2 1).f4) (wrap64 (a1 + 1))).bind fun t274 => (some (a0_0, a0_1, (l0_2.set (1 : Int).toNat (⟨(rd_T132 l0_2 1).f0, (rd_T132 l0_2 1).f1, (rd_T132 l0_2 1).f2, (rd_T132 l0_2 1).f3, t274, (rd_T132 l0_2 1).f5, (rd_T132 l0_2 1).f6⟩ : S132)), a0_3, a0_4))) else (none)) else ((spec_l21Max.f a0_3 (wrap64 (a1 + 1))).bind fun t276 => (some (a0_0, a0_1, l0_2, t276, a0_4)))) = some (r1, r2, r3, r4, r5) := h
 clear h
 by_cases c3 : (l0_2.length : Int) > 1
 rotate_left
 ·rw [if_neg c3] at H
  have c3b0 : decide (1 < (l0_2.length : Int)) = false := decide_eq_false c3
  have c3b1 : decide (1 < l0_2.length) = false := decide_eq_false (by omega)
  clear c3
  replace H := zbd H; obtain ⟨t276, A17, H⟩ := H
  simp only [Option.some.injEq, Prod.mk.injEq] at H
  obtain ⟨rfl, rfl, rfl, rfl, rfl⟩ := H
  obtain ⟨Ao18, co18, eo18⟩ := Kd.R_slice HO0_2.out
  subst eo18
  go_enter Try.func132, Try.ntmps132
  go_wp2_with (first | ((with_reducible refine gate_dst (N := 2) rfl ?_); refine zbx 2 #[.int .i64 a0_0, .int .i64 a0_1, .slice Ao18 l0_2.length co18, .int .i64 a0_3, .int .i64 a0_4] 68 ?_; intro gb271 hg w19 hbox hb; have BK271 := zA hbox; have GW271 := zA ((by rw [hg]; exact (by first | exact HK.out.1 | exact (show Kept w _ (fun k_ => P0_2_ k_) from by repeat (first | (with_reducible first | exact HK.out | apply Kept.alloc | apply Kept.drewN | apply Kept.drew) | exact HK.out)).1) : w.heap.size ≤ gb271)); have GE271 := zA ((by rw [hg]; exact (below_size (zs0 HB)) : w0.heap.size ≤ gb271)); replace HO0_2 := zA (Kd.R_below (zr HO0_2) hb); replace HK := zA (Kept.below (S := (fun k_ => P0_2_ k_)) (by repeat (first | (with_reducible first | exact HK.out | apply Kept.alloc | apply Kept.drewN | apply Kept.drew) | exact HK.out)) hb); replace HB := zE (zs0 HB) hb; clear hb hbox hg) | ((with_reducible refine gate_dst (N := 4) rfl ?_); refine zbx 4 #[.int .i64 0, .int .i64 0, .slice none 0 0, .int .i64 0, .int .i64 0] 68 ?_; intro gb272 hg w20 hbox hb; have BK272 := zA hbox; have GW272 := zA ((by rw [hg]; exact (by first | exact HK.out.1 | exact (show Kept w _ (fun k_ => P0_2_ k_) from by repeat (first | (with_reducible first | exact HK.out | apply Kept.alloc | apply Kept.drewN | apply Kept.drew | refine Kept.setCell ?_ (.inr GW271.out) _) | exact HK.out)).1) : w.heap.size ≤ gb272)); have GE272 := zA ((by rw [hg]; exact (below_size (zs1 HB GE271)) : w0.heap.size ≤ gb272)); have NB271_272 := zne hg BK271; have NB272_271 := znf hg BK271; replace HO0_2 := zA (Kd.R_below (zr HO0_2) hb); replace BK271 := zb BK271 hb; replace HK := zA (Kept.below (S := (fun k_ => P0_2_ k_)) (by repeat (first | (with_reducible first | exact HK.out | apply Kept.alloc | apply Kept.drewN | apply Kept.drew | refine Kept.setCell ?_ (.inr GW271.out) _) | exact HK.out)) hb); replace HB := zE (zs1 HB GE271) hb; clear hb hbox hg; have hnb21 := NB271_272.out; have hnc21 := NB272_271.out; obtain ⟨hcz22_0, hcz22_1, hcz22_2, hcz22_3, hcz22_4⟩ := zd5 BK271; obtain ⟨hfz22_0, hfz22_1, hfz22_2, hfz22_3, hfz22_4⟩ := zn5 BK271) | ((with_reducible refine gate_callee (f := 130) rfl ?_); refine zgl (N := some 25) Try.func130 #[.int .i64 a0_3, .int .i64 (wrap64 (a1 + 1))] ?_; (with_reducible refine (spec_l21Max.calls a0_3 (wrap64 (a1 + 1)) t276 _ A17.out).mono ?_); rintro e w' ⟨rfl, ⟨nd, rfl⟩⟩; refine ⟨_, rfl, ?_⟩; (try (rw [drewN_self w20]; generalize hq_ : World.drewN w20 _ = w20; replace HO0_2 : Aside0 (Kd.R k132 132 w20 w0.heap.size (fun k_ => (P0_2_ k_ ∨ w.heap.size ≤ k_)) (.slice Ao18 l0_2.length co18) l0_2) := ⟨by rw [← hq_]; exact (zr HO0_2)⟩; replace BK271 : Aside0 (w20.heap[gb271]? = some (.cells #[.int .i64 a0_0, .int .i64 a0_1, .slice Ao18 l0_2.length co18, .int .i64 a0_3, .int .i64 a0_4] 68 (0, 0))) := ⟨by rw [← hq_]; exact (zh BK271)⟩; replace BK272 : Aside0 (w20.heap[gb272]? = some (.cells #[.int .i64 0, .int .i64 0, .slice none 0 0, .int .i64 0, .int .i64 0] 68 (0, 0))) := ⟨by rw [← hq_]; exact (zh BK272)⟩; replace HK : Aside0 (Kept w w20 (fun k_ => P0_2_ k_)) := ⟨by rw [← hq_]; exact (by repeat (first | (with_reducible first | exact HK.out | apply Kept.alloc | apply Kept.drewN | apply Kept.drew | refine Kept.setCell ?_ (.inr GW271.out) _ | refine Kept.setCell ?_ (.inr GW272.out) _) | exact HK.out))⟩; replace HB : Aside0 (Below w0.heap.size w0 w20) := ⟨by rw [← hq_]; exact (zs2 HB GE271 GE272)⟩; clear hq_)); obtain ⟨hcz23_0, hcz23_1, hcz23_2, hcz23_3, hcz23_4⟩ := zd5 BK272; obtain ⟨hfz23_0, hfz23_1, hfz23_2, hfz23_3, hfz23_4⟩ := zn5 BK272; obtain ⟨_, _, _, _, _⟩ := zd5 BK271; obtain ⟨_, _, _, _, _⟩ := zn5 BK271))
  refine bodyPost_ret (results_cell_row rfl _ _ gb272 68 #[.int .i64 a0_0, .int .i64 a0_1, .slice Ao18 l0_2.length co18, .int .i64 t276, .int .i64 a0_4] (0, 0) _ rfl ?hz Try.underlying68 rfl (by kernel_rfl)) rfl ?_; (case hz => exact zpf BK272 NB272_271)
  exact ⟨_, ze, by (with_reducible repeat (first | apply Kd.R_alloc | apply Kd.R_drewN | apply Kd.R_drew)); exact Kd.R_mono (Kd.R_far (p := ⟨gb272, 4, none⟩) (Kd.R_far (p := ⟨gb272, 3, none⟩) (Kd.R_far (p := ⟨gb272, 2, none⟩) (Kd.R_far (p := ⟨gb272, 1, none⟩) (Kd.R_far (p := ⟨gb272, 0, none⟩) (Kd.R_far (p := ⟨gb271, 3, none⟩) (Kd.R_types (Kd.R_types HO0_2.out BK271.out (by decide)) BK272.out (by decide)) (fun _ hk => hk.1.2) (.int .i64 t276)) (fun _ hk => hk.2) (.int .i64 a0_0)) (fun _ hk => hk.2) (.int .i64 a0_1)) (fun _ hk => hk.2) (.slice Ao18 l0_2.length co18)) (fun _ hk => hk.2) (.int .i64 t276)) (fun _ hk => hk.2) (.int .i64 a0_4)) (fun _ hk => hk.1.1), zs2 HB GE271 GE272, by repeat (first | (with_reducible first | exact HK.out | apply Kept.alloc | apply Kept.drewN | apply Kept.drew | refine Kept.setCell ?_ (.inr GW271.out) _ | refine Kept.setCell ?_ (.inr GW272.out) _) | exact HK.out)⟩
 rw [if_pos c3] at H
 have c3b0 : decide (1 < (l0_2.length : Int)) = true := decide_eq_true c3
 have c3b1 : decide (1 < l0_2.length) = true := decide_eq_true (by omega)
 clear c3
 by_cases c4 : 1 < (l0_2.length : Int)
 rotate_left
 ·rw [if_neg c4] at H
  exact absurd H (by simp)
 rw [if_pos c4] at H
 have c4b0 : decide (1 < (l0_2.length : Int)) = true := decide_eq_true c4
 have c4b1 : decide (1 < l0_2.length) = true := decide_eq_true (by omega)
 clear c4
 replace H := zbd H; obtain ⟨t274, A5, H⟩ := H
 obtain ⟨y275, hy275⟩ : ∃ y_ : List (S132), y_ = (l0_2.set (1 : Int).toNat (⟨(rd_T132 l0_2 1).f0, (rd_T132 l0_2 1).f1, (rd_T132 l0_2 1).f2, (rd_T132 l0_2 1).f3, t274, (rd_T132 l0_2 1).f5, (rd_T132 l0_2 1).f6⟩ : S132)) := ⟨_, rfl⟩
 replace H : (some (a0_0, a0_1, y275, a0_3, a0_4)) = some (r1, r2, r3, r4, r5) := by first | (rw [hy275]; with_reducible exact H) | (have H2_ := (Option.bind_some _ _).symm.trans H; rw [hy275]; with_reducible exact H2_) | (have H2_ := (Option.bind_some _ _).symm.trans H; with_reducible exact H2_) | with_reducible exact H | (rw [hy275]; exact H) | exact H
 have Ny275 := zA hy275
 clear hy275
 simp only [Option.some.injEq, Prod.mk.injEq] at H
 obtain ⟨rfl, rfl, rfl, rfl, rfl⟩ := H
 obtain ⟨Ao7, co7, eo7⟩ := Kd.R_slice HO0_2.out
 subst eo7
 go_enter Try.func132, Try.ntmps132
 try go_wp2_with (first | ((with_reducible refine gate_dst (N := 2) rfl ?_); refine zbx 2 #[.int .i64 a0_0, .int .i64 a0_1, .slice Ao7 l0_2.length co7, .int .i64 a0_3, .int .i64 a0_4] 68 ?_; intro gb271 hg w8 hbox hb; have BK271 := zA hbox; have GW271 := zA ((by rw [hg]; exact (by first | exact HK.out.1 | exact (show Kept w _ (fun k_ => P0_2_ k_) from by repeat (first | (with_reducible first | exact HK.out | apply Kept.alloc | apply Kept.drewN | apply Kept.drew) | exact HK.out)).1) : w.heap.size ≤ gb271)); have GE271 := zA ((by rw [hg]; exact (below_size (zs0 HB)) : w0.heap.size ≤ gb271)); replace HO0_2 := zA (Kd.R_below (zr HO0_2) hb); replace HK := zA (Kept.below (S := (fun k_ => P0_2_ k_)) (by repeat (first | (with_reducible first | exact HK.out | apply Kept.alloc | apply Kept.drewN | apply Kept.drew) | exact HK.out)) hb); replace HB := zE (zs0 HB) hb; clear hb hbox hg) | ((with_reducible refine gate_dst (N := 4) rfl ?_); refine zbx 4 #[.int .i64 0, .int .i64 0, .slice none 0 0, .int .i64 0, .int .i64 0] 68 ?_; intro gb272 hg w9 hbox hb; have BK272 := zA hbox; have GW272 := zA ((by rw [hg]; exact (by first | exact HK.out.1 | exact (show Kept w _ (fun k_ => P0_2_ k_) from by repeat (first | (with_reducible first | exact HK.out | apply Kept.alloc | apply Kept.drewN | apply Kept.drew | refine Kept.setCell ?_ (.inr GW271.out) _) | exact HK.out)).1) : w.heap.size ≤ gb272)); have GE272 := zA ((by rw [hg]; exact (below_size (zs1 HB GE271)) : w0.heap.size ≤ gb272)); have NB271_272 := zne hg BK271; have NB272_271 := znf hg BK271; replace HO0_2 := zA (Kd.R_below (zr HO0_2) hb); replace BK271 := zb BK271 hb; replace HK := zA (Kept.below (S := (fun k_ => P0_2_ k_)) (by repeat (first | (with_reducible first | exact HK.out | apply Kept.alloc | apply Kept.drewN | apply Kept.drew | refine Kept.setCell ?_ (.inr GW271.out) _) | exact HK.out)) hb); replace HB := zE (zs1 HB GE271) hb; clear hb hbox hg; have hnb10 := NB271_272.out; have hnc10 := NB272_271.out; obtain ⟨hcz11_0, hcz11_1, hcz11_2, hcz11_3, hcz11_4⟩ := zd5 BK271; obtain ⟨hfz11_0, hfz11_1, hfz11_2, hfz11_3, hfz11_4⟩ := zn5 BK271))
 replace HO0_2 := zA (Kd.R_drew HO0_2.out)
 replace BK271 := zA (blk_drew BK271.out)
 replace BK272 := zA (blk_drew BK272.out)
 replace HK := zA (Kept.drew HK.out)
 replace HB := zA (below_drew1 HB.out)
 have p273 : 0 ≤ (1 : Int) := (by omega)
 have q273 : 1 < (l0_2.length : Int) := za
 obtain ⟨ad273, e273, hx273_0, hx273_1, hx273_2, hx273_3, hx273_4, hx273_5, hx273_6⟩ := at_T132 (Kd.R_reads' HO0_2.out).2.2 1 p273 q273
 cases e273
 (try simp only [show (1 : Int).toNat = 1 from rfl, Nat.reduceMul, Nat.reduceEqDiff, Go.Addr.add, ↓reduceIte] at hx273_0)
 (try simp only [show (1 : Int).toNat = 1 from rfl, Nat.reduceMul, Nat.reduceEqDiff, Go.Addr.add, ↓reduceIte] at hx273_1)
 (try simp only [show (1 : Int).toNat = 1 from rfl, Nat.reduceMul, Nat.reduceEqDiff, Go.Addr.add, ↓reduceIte] at hx273_2)
 (try simp only [show (1 : Int).toNat = 1 from rfl, Nat.reduceMul, Nat.reduceEqDiff, Go.Addr.add, ↓reduceIte] at hx273_3)
 (try simp only [show (1 : Int).toNat = 1 from rfl, Nat.reduceMul, Nat.reduceEqDiff, Go.Addr.add, ↓reduceIte] at hx273_4)
 (try simp only [show (1 : Int).toNat = 1 from rfl, Nat.reduceMul, Nat.reduceEqDiff, Go.Addr.add, ↓reduceIte] at hx273_5)
 (try simp only [show (1 : Int).toNat = 1 from rfl, Nat.reduceMul, Nat.reduceEqDiff, Go.Addr.add, ↓reduceIte] at hx273_6)
 have qi273 : (1 < l0_2.length) = True := eq_true (by omega)
 (try rw [zi1] at hx273_0)
 (try rw [show 1 * 7 = 7 from rfl] at hx273_0)
 (try rw [zi1] at hx273_1)
 (try rw [show 1 * 7 = 7 from rfl] at hx273_1)
 (try rw [zi1] at hx273_2)
 (try rw [show 1 * 7 = 7 from rfl] at hx273_2)
 (try rw [zi1] at hx273_3)
 (try rw [show 1 * 7 = 7 from rfl] at hx273_3)
 (try rw [zi1] at hx273_4)
 (try rw [show 1 * 7 = 7 from rfl] at hx273_4)
 (try rw [zi1] at hx273_5)
 (try rw [show 1 * 7 = 7 from rfl] at hx273_5)
 (try rw [zi1] at hx273_6)
 (try rw [show 1 * 7 = 7 from rfl] at hx273_6)
 replace p273 := eq_true p273
 replace q273 := eq_true q273
 refine start_ (n := 13) (S := fun w' => w'.cell? ⟨gb271, 0, none⟩ = some (.int .i64 a0_0) ∧ w'.cell? ⟨gb271, 1, none⟩ = some (.int .i64 a0_1) ∧ w'.cell? ⟨gb271, 2, none⟩ = some (.slice (some ad273) l0_2.length co7) ∧ w'.cell? ⟨gb271, 3, none⟩ = some (.int .i64 a0_3) ∧ w'.cell? ⟨gb271, 4, none⟩ = some (.int .i64 a0_4) ∧ w'.cell? ⟨ad273.block, ad273.off + 7, none⟩ = some (.int .i64 ((rd_T132 l0_2 1).f0)) ∧ w'.cell? ⟨ad273.block, ad273.off + 7 + 1, none⟩ = some (.int .i64 ((rd_T132 l0_2 1).f1)) ∧ w'.cell? ⟨ad273.block, ad273.off + 7 + 2, none⟩ = some (.int .i64 ((rd_T132 l0_2 1).f2)) ∧ w'.cell? ⟨ad273.block, ad273.off + 7 + 3, none⟩ = some (.int .i64 ((rd_T132 l0_2 1).f3)) ∧ w'.cell? ⟨ad273.block, ad273.off + 7 + 4, none⟩ = some (.int .i64 ((rd_T132 l0_2 1).f4)) ∧ w'.cell? ⟨ad273.block, ad273.off + 7 + 5, none⟩ = some (.int .i64 ((rd_T132 l0_2 1).f5)) ∧ w'.cell? ⟨ad273.block, ad273.off + 7 + 6, none⟩ = some (.bool ((rd_T132 l0_2 1).f6))) (ds := [12]) #[F,F,F,F,F,F,F,F,F,F,F,F,F] (by kernel_rfl) rfl rfl ⟨zc0 BK271, zc1 BK271, zc2 BK271, zc3 BK271, zc4 BK271, hx273_0, hx273_1, hx273_2, hx273_3, hx273_4, hx273_5, hx273_6⟩ (fun hHeld => ?_); refine with_tabW spec_l27After.tab2 spec_l27After.bits2 (fun HT_ HW_ => ?_)
 generalize w9.drew = w12 at HO0_2 BK271 BK272 HK HB hx273_0 hx273_1 hx273_2 hx273_3 hx273_4 hx273_5 hx273_6 hHeld ⊢
 refine zq HT_ 0 ?_
 refine zq HT_ 2 ?_
 refine zq HT_ 7 ?_
 refine zq HT_ 8 ?_
 refine zk12 HT_ HW_ hHeld 1 ?_
 refine zk12 HT_ HW_ hHeld 3 ?_
 refine zq HT_ 4 ?_
 refine zq HT_ 5 ?_
 refine zk12 HT_ HW_ hHeld 6 ?_
 refine zo HT_ 9 (fun K hK => ?_)
 refine zgo Try.func130 #[.int .i64 ((rd_T132 l0_2 1).f4), .int .i64 (wrap64 (a1 + 1))] ?_
 with_reducible refine (spec_l21Max.calls ((rd_T132 l0_2 1).f4) (wrap64 (a1 + 1)) t274 _ A5.out).mono ?_
 rintro e w' ⟨rfl, ⟨nd, rfl⟩⟩
 refine ⟨_, rfl, ?_⟩
 have p6 : 0 ≤ (1 : Int) := (by omega)
 have q6 : (1 : Int) < ((l0_2.length : Int) : Int) := za
 have qi6 : (1 < l0_2.length) = True := eq_true (by omega)
 obtain ⟨go6, co6, eo6, gb6, gl6, cl6, HG6⟩ := Kd.R_form HO0_2.out (by omega)
 (first | cases eo6 | (injection eo6 with ea_ en_ ec_; (first | subst ea_ | (injection ea_ with ea_; subst ea_)); subst ec_; clear en_))
 have GB6 := zA gb6
 have GG6 := zA HG6
 clear gb6 gl6 HG6
 have HMgo6 := zA (show (P0_2_ go6 ∨ w.heap.size ≤ go6) from (HO0_2.out.1 _ rfl))
 (first | simp only [add_plain] at hx273_0 | skip)
 (first | simp only [add_plain] at hx273_1 | skip)
 (first | simp only [add_plain] at hx273_2 | skip)
 (first | simp only [add_plain] at hx273_3 | skip)
 (first | simp only [add_plain] at hx273_4 | skip)
 (first | simp only [add_plain] at hx273_5 | skip)
 (first | simp only [add_plain] at hx273_6 | skip)
 obtain ⟨ce6, hcl6, hM6, hcc6, hfr6⟩ := Kd.R_elem HO0_2.out z132 (1 : Int) p6 q6
 obtain rfl := k132_openM hM6
 have hx6_0 : World.cell? _ ⟨go6, (1 : Int).toNat * 7, none⟩ = some (.int .i64 ((rd_T132 l0_2 1).f0)) := hcc6 0 _ rfl
 have hx6_1 : World.cell? _ ⟨go6, (1 : Int).toNat * 7 + 1, none⟩ = some (.int .i64 ((rd_T132 l0_2 1).f1)) := hcc6 1 _ rfl
 have hx6_2 : World.cell? _ ⟨go6, (1 : Int).toNat * 7 + 2, none⟩ = some (.int .i64 ((rd_T132 l0_2 1).f2)) := hcc6 2 _ rfl
 have hx6_3 : World.cell? _ ⟨go6, (1 : Int).toNat * 7 + 3, none⟩ = some (.int .i64 ((rd_T132 l0_2 1).f3)) := hcc6 3 _ rfl
 have hx6_4 : World.cell? _ ⟨go6, (1 : Int).toNat * 7 + 4, none⟩ = some (.int .i64 ((rd_T132 l0_2 1).f4)) := hcc6 4 _ rfl
 have hx6_5 : World.cell? _ ⟨go6, (1 : Int).toNat * 7 + 5, none⟩ = some (.int .i64 ((rd_T132 l0_2 1).f5)) := hcc6 5 _ rfl
 have hx6_6 : World.cell? _ ⟨go6, (1 : Int).toNat * 7 + 6, none⟩ = some (.bool ((rd_T132 l0_2 1).f6)) := hcc6 6 _ rfl
 have hf6_0 : World.frozen? _ ⟨go6, (1 : Int).toNat * 7, none⟩ = false := hfr6 0
 have hf6_1 : World.frozen? _ ⟨go6, (1 : Int).toNat * 7 + 1, none⟩ = false := hfr6 1
 have hf6_2 : World.frozen? _ ⟨go6, (1 : Int).toNat * 7 + 2, none⟩ = false := hfr6 2
 have hf6_3 : World.frozen? _ ⟨go6, (1 : Int).toNat * 7 + 3, none⟩ = false := hfr6 3
 have hf6_4 : World.frozen? _ ⟨go6, (1 : Int).toNat * 7 + 4, none⟩ = false := hfr6 4
 have hf6_5 : World.frozen? _ ⟨go6, (1 : Int).toNat * 7 + 5, none⟩ = false := hfr6 5
 have hf6_6 : World.frozen? _ ⟨go6, (1 : Int).toNat * 7 + 6, none⟩ = false := hfr6 6
 clear hcl6 hcc6 hfr6 hM6
 (try rw [zi1] at hx6_0)
 (try simp only [Nat.zero_mul, Nat.zero_add] at hx6_0)
 (try rw [zi1] at hf6_0)
 (try simp only [Nat.zero_mul, Nat.zero_add] at hf6_0)
 (try rw [zi1] at hx6_1)
 (try simp only [Nat.zero_mul, Nat.zero_add] at hx6_1)
 (try rw [zi1] at hf6_1)
 (try simp only [Nat.zero_mul, Nat.zero_add] at hf6_1)
 (try rw [zi1] at hx6_2)
 (try simp only [Nat.zero_mul, Nat.zero_add] at hx6_2)
 (try rw [zi1] at hf6_2)
 (try simp only [Nat.zero_mul, Nat.zero_add] at hf6_2)
 (try rw [zi1] at hx6_3)
 (try simp only [Nat.zero_mul, Nat.zero_add] at hx6_3)
 (try rw [zi1] at hf6_3)
 (try simp only [Nat.zero_mul, Nat.zero_add] at hf6_3)
 (try rw [zi1] at hx6_4)
 (try simp only [Nat.zero_mul, Nat.zero_add] at hx6_4)
 (try rw [zi1] at hf6_4)
 (try simp only [Nat.zero_mul, Nat.zero_add] at hf6_4)
 (try rw [zi1] at hx6_5)
 (try simp only [Nat.zero_mul, Nat.zero_add] at hx6_5)
 (try rw [zi1] at hf6_5)
 (try simp only [Nat.zero_mul, Nat.zero_add] at hf6_5)
 (try rw [zi1] at hx6_6)
 (try simp only [Nat.zero_mul, Nat.zero_add] at hx6_6)
 (try rw [zi1] at hf6_6)
 (try simp only [Nat.zero_mul, Nat.zero_add] at hf6_6)
 replace p6 := eq_true p6
 replace q6 := eq_true q6
 obtain ⟨ce13, hcl13, hM13, hcc13, hfr13⟩ := Kd.R_elem HO0_2.out z132 (1 : Int) (by omega) (by have h_ : (1 : Int) < ((l0_2.length : Int) : Int) := za; first | exact h_ | (have e_ := (Kd.R_reads' HO0_2.out).1; omega) | simpa using h_)
 obtain rfl := k132_openM hM13
 have HP13 := (Kd.R_seg HO0_2.out (1 : Int) (by omega) (by have h_ : (1 : Int) < ((l0_2.length : Int) : Int) := za; first | exact h_ | (have e_ := (Kd.R_reads' HO0_2.out).1; omega) | simpa using h_) (seg := [.int .i64 t274]) (j := 4) hcl13 hcc13 (show 5 ≤ 7 from by decide) (x' := (⟨(rd_T132 l0_2 1).f0, (rd_T132 l0_2 1).f1, (rd_T132 l0_2 1).f2, (rd_T132 l0_2 1).f3, t274, (rd_T132 l0_2 1).f5, (rd_T132 l0_2 1).f6⟩ : S132)) (k132_mkM _ _ _ (⟨(rd_T132 l0_2 1).f0, (rd_T132 l0_2 1).f1, (rd_T132 l0_2 1).f2, (rd_T132 l0_2 1).f3, t274, (rd_T132 l0_2 1).f5, (rd_T132 l0_2 1).f6⟩ : S132) ) (fun _ hk => hk)).1
 rw [← Ny275.out] at HP13
 have HQ13 := zA HP13
 clear hcl13 hcc13 hfr13 hM13 HP13
 refine hK.out _ _ ⟨zc0 BK271, zc1 BK271, zc2 BK271, zc3 BK271, zc4 BK271, hHeld.2.2.2.2.2⟩ (fun hHeld => ?_)
 clear hK K
 refine zN ?_
 refine zq HT_ 10 ?_
 refine zq HT_ 11 ?_
 refine zO HT_ 12 (fun K hK => ?_)
 refine skip_ (w1 := ?_) (by rfl) rfl ?_ ?_
 rotate_left
 ·go_simp
  rfl
 refine hK.out _ _ ?_
 clear hK K
 refine done_ (done_of HT_.out (by kernel_rfl)) ?_
 have n0_ : Aside0 (Kd.R k132 132 (w12.setCell ⟨go6, 11, none⟩ (.int .i64 t274)) w0.heap.size (fun k_ => (P0_2_ k_ ∨ w.heap.size ≤ k_)) (.slice (some ⟨go6, 0, none⟩) l0_2.length co7) y275) := ⟨zr HQ13⟩
 have n1_ : Aside0 ((w12.setCell ⟨go6, 11, none⟩ (.int .i64 t274)).heap[gb271]? = some (.cells #[.int .i64 a0_0, .int .i64 a0_1, .slice (some ⟨go6, 0, none⟩) l0_2.length co7, .int .i64 a0_3, .int .i64 a0_4] 68 (0, 0))) := ⟨by (with_reducible repeat (first | refine blk_drewN ?_ _ | refine blk_drew ?_ | refine blk_alloc ?_ _)); refine blk_far ?_ (by have h_ := Kd.R_ne HO0_2.out BK271.out (by decide); intro e_; exact h_ (by rw [e_]; rfl)) _; (with_reducible repeat (first | refine blk_drewN ?_ _ | refine blk_drew ?_ | refine blk_alloc ?_ _)); exact BK271.out⟩
 have n2_ : Aside0 ((w12.setCell ⟨go6, 11, none⟩ (.int .i64 t274)).heap[gb272]? = some (.cells #[.int .i64 0, .int .i64 0, .slice none 0 0, .int .i64 0, .int .i64 0] 68 (0, 0))) := ⟨by (with_reducible repeat (first | refine blk_drewN ?_ _ | refine blk_drew ?_ | refine blk_alloc ?_ _)); refine blk_far ?_ (by have h_ := Kd.R_ne HO0_2.out BK272.out (by decide); intro e_; exact h_ (by rw [e_]; rfl)) _; (with_reducible repeat (first | refine blk_drewN ?_ _ | refine blk_drew ?_ | refine blk_alloc ?_ _)); exact BK272.out⟩
 have n3_ : Aside0 (Kept w (w12.setCell ⟨go6, 11, none⟩ (.int .i64 t274)) (fun k_ => P0_2_ k_)) := ⟨by repeat (first | (with_reducible first | exact HK.out | apply Kept.alloc | apply Kept.drewN | apply Kept.drew | refine Kept.setCell ?_ HMgo6.out _ | refine Kept.setCell ?_ (.inr GW271.out) _ | refine Kept.setCell ?_ (.inr GW272.out) _) | exact HK.out)⟩
 have n4_ : Aside0 (Below w0.heap.size w0 (w12.setCell ⟨go6, 11, none⟩ (.int .i64 t274))) := ⟨by repeat (first | (with_reducible first | exact HB.out | apply below_alloc | apply pw_below_drewN | apply below_drew1 | refine below_set ?_ GB6.out | refine below_set ?_ GE271.out | refine below_set ?_ GE272.out) | exact HB.out)⟩
 (try clear HO0_2)
 (try clear BK271)
 (try clear BK272)
 (try clear HK)
 (try clear HB)
 generalize (w12.setCell ⟨go6, 11, none⟩ (.int .i64 t274)) = w14 at n0_ n1_ n2_ n3_ n4_ ⊢
 have HO0_2 := n0_
 have BK271 := n1_
 have BK272 := n2_
 have HK := n3_
 have HB := n4_
 clear n0_ n1_ n2_ n3_ n4_
 obtain ⟨hcz15_0, hcz15_1, hcz15_2, hcz15_3, hcz15_4⟩ := zd5 BK271
 obtain ⟨hfz15_0, hfz15_1, hfz15_2, hfz15_3, hfz15_4⟩ := zn5 BK271
 obtain ⟨hcz16_0, hcz16_1, hcz16_2, hcz16_3, hcz16_4⟩ := zd5 BK272
 obtain ⟨hfz16_0, hfz16_1, hfz16_2, hfz16_3, hfz16_4⟩ := zn5 BK272
 try go_wp2
 refine bodyPost_ret (results_cell_row rfl _ _ gb272 68 #[.int .i64 a0_0, .int .i64 a0_1, .slice (some ⟨go6, 0, none⟩) l0_2.length co7, .int .i64 a0_3, .int .i64 a0_4] (0, 0) _ rfl ?hz Try.underlying68 rfl (by kernel_rfl)) rfl ?_; (case hz => exact zpb BK272)
 exact ⟨_, ze, by (with_reducible repeat (first | apply Kd.R_alloc | apply Kd.R_drewN | apply Kd.R_drew)); exact Kd.R_mono (Kd.R_far (p := ⟨gb272, 4, none⟩) (Kd.R_far (p := ⟨gb272, 3, none⟩) (Kd.R_far (p := ⟨gb272, 2, none⟩) (Kd.R_far (p := ⟨gb272, 1, none⟩) (Kd.R_far (p := ⟨gb272, 0, none⟩) (Kd.R_types HO0_2.out BK272.out (by decide)) (fun _ hk => hk.2) (.int .i64 a0_0)) (fun _ hk => hk.2) (.int .i64 a0_1)) (fun _ hk => hk.2) (.slice (some ⟨go6, 0, none⟩) l0_2.length co7)) (fun _ hk => hk.2) (.int .i64 a0_3)) (fun _ hk => hk.2) (.int .i64 a0_4)) (fun _ hk => hk.1), zs2 HB GE271 GE272, by repeat (first | (with_reducible first | exact HK.out | apply Kept.alloc | apply Kept.drewN | apply Kept.drew | refine Kept.setCell ?_ (.inr GW271.out) _ | refine Kept.setCell ?_ (.inr GW272.out) _) | exact HK.out)⟩
end Go.Proofs.Ytbmplfpnhjhoiaa.QFnExactFlyRest
