/- The walk of what the law FnExactFlyRest reaches: laid by a program of this session (ownprint.py). -/
import Derived.Test.YtbmplfpnhjhoiaaQFnExactFlyRestx0
import Derived.Test.YtbmplfpnhjhoiaaQFnExactFlyRestx12
import Derived.Test.YtbmplfpnhjhoiaaQFnExactFlyRestx16
namespace Go.Proofs.Ytbmplfpnhjhoiaa.QFnExactFlyRest
open Go.RowKit Go.Proofs.YtbmplfpnhjhoiaaW.PrintWords Go.Proofs.YtbmplfpnhjhoiaaW.PrintLast Go.Proofs.YtbmplfpnhjhoiaaW.PrintMore Go.Proofs.Ytbmplfpnhjhoiaa.Z
attribute [local go_sem] max2_int min2_int max_two min_two max_three min_three max_four min_four zdn   -- for this text's walks alone
set_option linter.unusedVariables false
set_option linter.unusedSimpArgs false
def impl_FlyRest.f (k : Nat) (a0_0 : Int) (a0_1 : Int) (l0_2 : List (S132)) (a0_3 : Int) (a0_4 : Int) (a1 : Int) (a2 : Int) (a3 : Int) : Option (Int × Int × (List (S132)) × Int × Int × Bool) := (impl_FlyPathOk.f k a0_0 a0_1 l0_2 a0_3 a0_4).bind fun t400 => (if t400 = true then (if a1 < 0 then (some (0, 0, ([] : List (S132)), 0, 0, false)) else (if a1 ≥ (l0_2.length : Int) then (some (0, 0, ([] : List (S132)), 0, 0, false)) else (if a3 > 10000 then (some (0, 0, ([] : List (S132)), 0, 0, false)) else (if a2 < 0 then (some (0, 0, ([] : List (S132)), 0, 0, false)) else (if a2 > a3 then (some (0, 0, ([] : List (S132)), 0, 0, false)) else (if 0 ≤ a1 then (if a1 < (l0_2.length : Int) then ((impl_FlyPath_rest.f k a0_0 a0_1 l0_2 a0_3 a0_4 a1 (mx ((rd_T132 l0_2 a1).f4) a2) (mn ((rd_T132 l0_2 a1).f5) a2) a3).bind fun bt403 => (some (bt403.1, bt403.2.1, bt403.2.2.1, bt403.2.2.2.1, bt403.2.2.2.2.1, bt403.2.2.2.2.2))) else (none)) else (none))))))) else (some (0, 0, ([] : List (S132)), 0, 0, false)))
set_option maxHeartbeats 8000000 in
set_option maxRecDepth 100000 in
theorem impl_FlyRest.calls (k : Nat) (a0_0 : Int) (a0_1 : Int) (A0_2 : Option Addr) (c0_2 : Nat) (l0_2 : List (S132)) (a0_3 : Int) (a0_4 : Int) (a1 : Int) (a2 : Int) (a3 : Int) (r1 : Int) (r2 : Int) (r3 : List (S132)) (r4 : Int) (r5 : Int) (r6 : Bool) (w : World) (hr0_2 : Kd.C k132 w A0_2 l0_2.length l0_2) (hc0_2 : l0_2.length ≤ c0_2) (h : impl_FlyRest.f k a0_0 a0_1 l0_2 a0_3 a0_4 a1 a2 a3 = some (r1, r2, r3, r4, r5, r6)) :
 Calls Try.prog 72 #[.agg #[.int .i64 a0_0, .int .i64 a0_1, .slice A0_2 l0_2.length c0_2, .int .i64 a0_3, .int .i64 a0_4], .int .i64 a1, .int .i64 a2, .int .i64 a3] w fun e w' => ∃ v2_ : Value, e = .returned (.tuple #[.agg #[.int .i64 r1, .int .i64 r2, v2_, .int .i64 r4, .int .i64 r5], .bool r6]) ∧ Kd.R k132 132 w' w.heap.size (fun _ => True) v2_ r3 ∧ Below w.heap.size w w' := by
 have hu68 := Try.underlying68
 have hu132 := Try.underlying132
 have HR0_2 := zA hr0_2
 have HC0_2 := zA hc0_2
 clear hr0_2 hc0_2
 have HB := zA (Below.refl w.heap.size w)
 have H : ((impl_FlyPathOk.f k a0_0 a0_1 l0_2 a0_3 a0_4).bind fun t400 => (if t400 = true then (if a1 < 0 then (some (0, 0, ([] : List (S132)), 0, 0, false)) else (if a1 ≥ (l0_2.length : Int) then (some (0, 0, ([] : List (S132)), 0, 0, false)) else (if a3 > 10000 then (some (0, 0, ([] : List (S132)), 0, 0, false)) else (if a2 < 0 then (some (0, 0, ([] : List (S132)), 0, 0, false)) else (if a2 > a3 then (some (0, 0, ([] : List (S132)), 0, 0, false)) else (if 0 ≤ a1 then (if a1 < (l0_2.length : Int) then ((impl_FlyPath_rest.f k a0_0 a0_1 l0_2 a0_3 a0_4 a1 (mx ((rd_T132 l0_2 a1).f4) a2) (mn ((rd_T132 l0_2 a1).f5) a2) a3).bind fun bt403 => (some (bt403.1, bt403.2.1, bt403.2.2.1, bt403.2.2.2.1, bt403.2.2.2.2.1, bt403.2.2.2.2.2))) else (none)) else (none))))))) else (some (0, 0, ([] : List (S132)), 0, 0, false)))) = some (r1, r2, r3, r4, r5, r6) := h
 clear h
 replace H := zbd H; obtain ⟨t400, A5, H⟩ := H
 by_cases c6 : t400 = true
 rotate_left
 ·replace c6 := Bool.eq_false_iff.mpr c6
  subst c6
  have H1 : (some (0, 0, ([] : List (S132)), 0, 0, false)) = some (r1, r2, r3, r4, r5, r6) := by rw [if_neg (show ¬ (false = true) by decide)] at H; exact H
  clear H
  have H := H1
  clear H1
  simp only [Option.some.injEq, Prod.mk.injEq] at H
  obtain ⟨rfl, rfl, rfl, rfl, rfl, rfl⟩ := H
  go_enter Try.func72, Try.ntmps72
  go_wp2_with (first | ((with_reducible refine gate_dst (N := 4) rfl ?_); (try (refine gate_guard (by rfl) ?_; dsimp only)); refine zbx 4 #[.int .i64 a0_0, .int .i64 a0_1, .slice A0_2 l0_2.length c0_2, .int .i64 a0_3, .int .i64 a0_4] 68 ?_; intro gb398 hg w65 hbox hb; have BK398 := zA hbox; have GW398 := zgs hg (zs0 HB); have GE398 := zgs hg (zs0 HB); replace HB := zE (zs0 HB) hb; clear hb hbox hg) | ((with_reducible refine gate_dst (N := 8) rfl ?_); (try (refine gate_guard (by rfl) ?_; dsimp only)); refine zbx 8 #[.int .i64 0, .int .i64 0, .slice none 0 0, .int .i64 0, .int .i64 0] 68 ?_; intro gb399 hg w66 hbox hb; have BK399 := zA hbox; have GW399 := zgs hg (zs1 HB GE398); have GE399 := zgs hg (zs1 HB GE398); have NB398_399 := zne hg BK398; have NB399_398 := znf hg BK398; replace BK398 := zb BK398 hb; replace HB := zE (zs1 HB GE398) hb; clear hb hbox hg; have hnb67 := NB398_399.out; have hnc67 := NB399_398.out; obtain ⟨hcz68_0, hcz68_1, hcz68_2, hcz68_3, hcz68_4⟩ := zd5 BK398; obtain ⟨hfz68_0, hfz68_1, hfz68_2, hfz68_3, hfz68_4⟩ := zn5 BK398) | ((with_reducible refine gate_callee (f := 99) rfl ?_); refine zgl (N := some 12) Try.func99 #[.agg #[.int .i64 a0_0, .int .i64 a0_1, .slice A0_2 l0_2.length c0_2, .int .i64 a0_3, .int .i64 a0_4]] ?_; (with_reducible refine (impl_FlyPathOk.calls k a0_0 a0_1 _ _ l0_2 a0_3 a0_4 false _ ?side1 ?side2 A5.out).mono ?_); (case side1 => exact zC HR0_2 HB); (case side2 => exact HC0_2.out); rintro e w69 ⟨rfl, hb⟩; refine ⟨_, rfl, ?_⟩; replace BK398 := zb BK398 hb; replace BK399 := zb BK399 hb; replace HB := zE (zs2 HB GE398 GE399) hb; (try clear hb); (try clear hb2); (try clear hk); (try clear hi); obtain ⟨hcz70_0, hcz70_1, hcz70_2, hcz70_3, hcz70_4⟩ := zd5 BK399; obtain ⟨hfz70_0, hfz70_1, hfz70_2, hfz70_3, hfz70_4⟩ := zn5 BK399))
  refine bodyPost_ret (results_ct rfl _ _ gb399 68 #[.int .i64 0, .int .i64 0, .slice none 0 0, .int .i64 0, .int .i64 0] (0, 0) _ rfl ?hz Try.underlying68 rfl (by kernel_rfl)) rfl ?_; (case hz => exact zpb BK399)
  exact ⟨_, ze, by first | exact Kd.R_nil _ _ _ _ _ | exact Kd.N_nil _ _ _ _ _ | exact Kd.V_nil _ _ _ _ _ | exact Kd.Q_nil _ _ _ _ _ | exact Kd.S_nil _ _ _ _ _, zs2 HB GE398 GE399⟩
 subst c6
 have H1 : (if a1 < 0 then (some (0, 0, ([] : List (S132)), 0, 0, false)) else (if a1 ≥ (l0_2.length : Int) then (some (0, 0, ([] : List (S132)), 0, 0, false)) else (if a3 > 10000 then (some (0, 0, ([] : List (S132)), 0, 0, false)) else (if a2 < 0 then (some (0, 0, ([] : List (S132)), 0, 0, false)) else (if a2 > a3 then (some (0, 0, ([] : List (S132)), 0, 0, false)) else (if 0 ≤ a1 then (if a1 < (l0_2.length : Int) then ((impl_FlyPath_rest.f k a0_0 a0_1 l0_2 a0_3 a0_4 a1 (mx ((rd_T132 l0_2 a1).f4) a2) (mn ((rd_T132 l0_2 a1).f5) a2) a3).bind fun bt403 => (some (bt403.1, bt403.2.1, bt403.2.2.1, bt403.2.2.2.1, bt403.2.2.2.2.1, bt403.2.2.2.2.2))) else (none)) else (none))))))) = some (r1, r2, r3, r4, r5, r6) := by rw [if_pos rfl] at H; exact H
 clear H
 have H := H1
 clear H1
 by_cases c7 : a1 < 0
 ·rw [if_pos c7] at H
  have c7b0 : decide (a1 < 0) = true := decide_eq_true c7
  clear c7
  simp only [Option.some.injEq, Prod.mk.injEq] at H
  obtain ⟨rfl, rfl, rfl, rfl, rfl, rfl⟩ := H
  go_enter Try.func72, Try.ntmps72
  go_wp2_with (first | ((with_reducible refine gate_dst (N := 4) rfl ?_); (try (refine gate_guard (by rfl) ?_; dsimp only)); refine zbx 4 #[.int .i64 a0_0, .int .i64 a0_1, .slice A0_2 l0_2.length c0_2, .int .i64 a0_3, .int .i64 a0_4] 68 ?_; intro gb398 hg w8 hbox hb; have BK398 := zA hbox; have GW398 := zgs hg (zs0 HB); have GE398 := zgs hg (zs0 HB); replace HB := zE (zs0 HB) hb; clear hb hbox hg) | ((with_reducible refine gate_dst (N := 8) rfl ?_); (try (refine gate_guard (by rfl) ?_; dsimp only)); refine zbx 8 #[.int .i64 0, .int .i64 0, .slice none 0 0, .int .i64 0, .int .i64 0] 68 ?_; intro gb399 hg w9 hbox hb; have BK399 := zA hbox; have GW399 := zgs hg (zs1 HB GE398); have GE399 := zgs hg (zs1 HB GE398); have NB398_399 := zne hg BK398; have NB399_398 := znf hg BK398; replace BK398 := zb BK398 hb; replace HB := zE (zs1 HB GE398) hb; clear hb hbox hg; have hnb10 := NB398_399.out; have hnc10 := NB399_398.out; obtain ⟨hcz11_0, hcz11_1, hcz11_2, hcz11_3, hcz11_4⟩ := zd5 BK398; obtain ⟨hfz11_0, hfz11_1, hfz11_2, hfz11_3, hfz11_4⟩ := zn5 BK398) | ((with_reducible refine gate_callee (f := 99) rfl ?_); refine zgl (N := some 12) Try.func99 #[.agg #[.int .i64 a0_0, .int .i64 a0_1, .slice A0_2 l0_2.length c0_2, .int .i64 a0_3, .int .i64 a0_4]] ?_; (with_reducible refine (impl_FlyPathOk.calls k a0_0 a0_1 _ _ l0_2 a0_3 a0_4 true _ ?side1 ?side2 A5.out).mono ?_); (case side1 => exact zC HR0_2 HB); (case side2 => exact HC0_2.out); rintro e w12 ⟨rfl, hb⟩; refine ⟨_, rfl, ?_⟩; replace BK398 := zb BK398 hb; replace BK399 := zb BK399 hb; replace HB := zE (zs2 HB GE398 GE399) hb; (try clear hb); (try clear hb2); (try clear hk); (try clear hi); obtain ⟨hcz13_0, hcz13_1, hcz13_2, hcz13_3, hcz13_4⟩ := zd5 BK399; obtain ⟨hfz13_0, hfz13_1, hfz13_2, hfz13_3, hfz13_4⟩ := zn5 BK399))
  refine bodyPost_ret (results_ct rfl _ _ gb399 68 #[.int .i64 0, .int .i64 0, .slice none 0 0, .int .i64 0, .int .i64 0] (0, 0) _ rfl ?hz Try.underlying68 rfl (by kernel_rfl)) rfl ?_; (case hz => exact zpb BK399)
  exact ⟨_, ze, by first | exact Kd.R_nil _ _ _ _ _ | exact Kd.N_nil _ _ _ _ _ | exact Kd.V_nil _ _ _ _ _ | exact Kd.Q_nil _ _ _ _ _ | exact Kd.S_nil _ _ _ _ _, zs2 HB GE398 GE399⟩
 rw [if_neg c7] at H
 have c7b0 : decide (a1 < 0) = false := decide_eq_false c7
 clear c7
 by_cases c14 : a1 ≥ (l0_2.length : Int)
 ·rw [if_pos c14] at H
  have c14b0 : decide ((l0_2.length : Int) ≤ a1) = true := decide_eq_true c14
  clear c14
  simp only [Option.some.injEq, Prod.mk.injEq] at H
  obtain ⟨rfl, rfl, rfl, rfl, rfl, rfl⟩ := H
  go_enter Try.func72, Try.ntmps72
  go_wp2_with (first | ((with_reducible refine gate_dst (N := 4) rfl ?_); (try (refine gate_guard (by rfl) ?_; dsimp only)); refine zbx 4 #[.int .i64 a0_0, .int .i64 a0_1, .slice A0_2 l0_2.length c0_2, .int .i64 a0_3, .int .i64 a0_4] 68 ?_; intro gb398 hg w15 hbox hb; have BK398 := zA hbox; have GW398 := zgs hg (zs0 HB); have GE398 := zgs hg (zs0 HB); replace HB := zE (zs0 HB) hb; clear hb hbox hg) | ((with_reducible refine gate_dst (N := 8) rfl ?_); (try (refine gate_guard (by rfl) ?_; dsimp only)); refine zbx 8 #[.int .i64 0, .int .i64 0, .slice none 0 0, .int .i64 0, .int .i64 0] 68 ?_; intro gb399 hg w16 hbox hb; have BK399 := zA hbox; have GW399 := zgs hg (zs1 HB GE398); have GE399 := zgs hg (zs1 HB GE398); have NB398_399 := zne hg BK398; have NB399_398 := znf hg BK398; replace BK398 := zb BK398 hb; replace HB := zE (zs1 HB GE398) hb; clear hb hbox hg; have hnb17 := NB398_399.out; have hnc17 := NB399_398.out; obtain ⟨hcz18_0, hcz18_1, hcz18_2, hcz18_3, hcz18_4⟩ := zd5 BK398; obtain ⟨hfz18_0, hfz18_1, hfz18_2, hfz18_3, hfz18_4⟩ := zn5 BK398) | ((with_reducible refine gate_callee (f := 99) rfl ?_); refine zgl (N := some 12) Try.func99 #[.agg #[.int .i64 a0_0, .int .i64 a0_1, .slice A0_2 l0_2.length c0_2, .int .i64 a0_3, .int .i64 a0_4]] ?_; (with_reducible refine (impl_FlyPathOk.calls k a0_0 a0_1 _ _ l0_2 a0_3 a0_4 true _ ?side1 ?side2 A5.out).mono ?_); (case side1 => exact zC HR0_2 HB); (case side2 => exact HC0_2.out); rintro e w19 ⟨rfl, hb⟩; refine ⟨_, rfl, ?_⟩; replace BK398 := zb BK398 hb; replace BK399 := zb BK399 hb; replace HB := zE (zs2 HB GE398 GE399) hb; (try clear hb); (try clear hb2); (try clear hk); (try clear hi); obtain ⟨hcz20_0, hcz20_1, hcz20_2, hcz20_3, hcz20_4⟩ := zd5 BK398; obtain ⟨hfz20_0, hfz20_1, hfz20_2, hfz20_3, hfz20_4⟩ := zn5 BK398; obtain ⟨hcz21_0, hcz21_1, hcz21_2, hcz21_3, hcz21_4⟩ := zd5 BK399; obtain ⟨hfz21_0, hfz21_1, hfz21_2, hfz21_3, hfz21_4⟩ := zn5 BK399))
  refine bodyPost_ret (results_ct rfl _ _ gb399 68 #[.int .i64 0, .int .i64 0, .slice none 0 0, .int .i64 0, .int .i64 0] (0, 0) _ rfl ?hz Try.underlying68 rfl (by kernel_rfl)) rfl ?_; (case hz => exact zpb BK399)
  exact ⟨_, ze, by first | exact Kd.R_nil _ _ _ _ _ | exact Kd.N_nil _ _ _ _ _ | exact Kd.V_nil _ _ _ _ _ | exact Kd.Q_nil _ _ _ _ _ | exact Kd.S_nil _ _ _ _ _, zs2 HB GE398 GE399⟩
 rw [if_neg c14] at H
 have c14b0 : decide ((l0_2.length : Int) ≤ a1) = false := decide_eq_false c14
 clear c14
 by_cases c22 : a3 > 10000
 ·rw [if_pos c22] at H
  have c22b0 : decide (10000 < a3) = true := decide_eq_true c22
  clear c22
  simp only [Option.some.injEq, Prod.mk.injEq] at H
  obtain ⟨rfl, rfl, rfl, rfl, rfl, rfl⟩ := H
  go_enter Try.func72, Try.ntmps72
  go_wp2_with (first | ((with_reducible refine gate_dst (N := 4) rfl ?_); (try (refine gate_guard (by rfl) ?_; dsimp only)); refine zbx 4 #[.int .i64 a0_0, .int .i64 a0_1, .slice A0_2 l0_2.length c0_2, .int .i64 a0_3, .int .i64 a0_4] 68 ?_; intro gb398 hg w23 hbox hb; have BK398 := zA hbox; have GW398 := zgs hg (zs0 HB); have GE398 := zgs hg (zs0 HB); replace HB := zE (zs0 HB) hb; clear hb hbox hg) | ((with_reducible refine gate_dst (N := 8) rfl ?_); (try (refine gate_guard (by rfl) ?_; dsimp only)); refine zbx 8 #[.int .i64 0, .int .i64 0, .slice none 0 0, .int .i64 0, .int .i64 0] 68 ?_; intro gb399 hg w24 hbox hb; have BK399 := zA hbox; have GW399 := zgs hg (zs1 HB GE398); have GE399 := zgs hg (zs1 HB GE398); have NB398_399 := zne hg BK398; have NB399_398 := znf hg BK398; replace BK398 := zb BK398 hb; replace HB := zE (zs1 HB GE398) hb; clear hb hbox hg; have hnb25 := NB398_399.out; have hnc25 := NB399_398.out; obtain ⟨hcz26_0, hcz26_1, hcz26_2, hcz26_3, hcz26_4⟩ := zd5 BK398; obtain ⟨hfz26_0, hfz26_1, hfz26_2, hfz26_3, hfz26_4⟩ := zn5 BK398) | ((with_reducible refine gate_callee (f := 99) rfl ?_); refine zgl (N := some 12) Try.func99 #[.agg #[.int .i64 a0_0, .int .i64 a0_1, .slice A0_2 l0_2.length c0_2, .int .i64 a0_3, .int .i64 a0_4]] ?_; (with_reducible refine (impl_FlyPathOk.calls k a0_0 a0_1 _ _ l0_2 a0_3 a0_4 true _ ?side1 ?side2 A5.out).mono ?_); (case side1 => exact zC HR0_2 HB); (case side2 => exact HC0_2.out); rintro e w27 ⟨rfl, hb⟩; refine ⟨_, rfl, ?_⟩; replace BK398 := zb BK398 hb; replace BK399 := zb BK399 hb; replace HB := zE (zs2 HB GE398 GE399) hb; (try clear hb); (try clear hb2); (try clear hk); (try clear hi); obtain ⟨hcz28_0, hcz28_1, hcz28_2, hcz28_3, hcz28_4⟩ := zd5 BK398; obtain ⟨hfz28_0, hfz28_1, hfz28_2, hfz28_3, hfz28_4⟩ := zn5 BK398; obtain ⟨hcz29_0, hcz29_1, hcz29_2, hcz29_3, hcz29_4⟩ := zd5 BK399; obtain ⟨hfz29_0, hfz29_1, hfz29_2, hfz29_3, hfz29_4⟩ := zn5 BK399))
  refine bodyPost_ret (results_ct rfl _ _ gb399 68 #[.int .i64 0, .int .i64 0, .slice none 0 0, .int .i64 0, .int .i64 0] (0, 0) _ rfl ?hz Try.underlying68 rfl (by kernel_rfl)) rfl ?_; (case hz => exact zpb BK399)
  exact ⟨_, ze, by first | exact Kd.R_nil _ _ _ _ _ | exact Kd.N_nil _ _ _ _ _ | exact Kd.V_nil _ _ _ _ _ | exact Kd.Q_nil _ _ _ _ _ | exact Kd.S_nil _ _ _ _ _, zs2 HB GE398 GE399⟩
 rw [if_neg c22] at H
 have c22b0 : decide (10000 < a3) = false := decide_eq_false c22
 clear c22
 by_cases c30 : a2 < 0
 ·rw [if_pos c30] at H
  have c30b0 : decide (a2 < 0) = true := decide_eq_true c30
  clear c30
  simp only [Option.some.injEq, Prod.mk.injEq] at H
  obtain ⟨rfl, rfl, rfl, rfl, rfl, rfl⟩ := H
  go_enter Try.func72, Try.ntmps72
  go_wp2_with (first | ((with_reducible refine gate_dst (N := 4) rfl ?_); (try (refine gate_guard (by rfl) ?_; dsimp only)); refine zbx 4 #[.int .i64 a0_0, .int .i64 a0_1, .slice A0_2 l0_2.length c0_2, .int .i64 a0_3, .int .i64 a0_4] 68 ?_; intro gb398 hg w31 hbox hb; have BK398 := zA hbox; have GW398 := zgs hg (zs0 HB); have GE398 := zgs hg (zs0 HB); replace HB := zE (zs0 HB) hb; clear hb hbox hg) | ((with_reducible refine gate_dst (N := 8) rfl ?_); (try (refine gate_guard (by rfl) ?_; dsimp only)); refine zbx 8 #[.int .i64 0, .int .i64 0, .slice none 0 0, .int .i64 0, .int .i64 0] 68 ?_; intro gb399 hg w32 hbox hb; have BK399 := zA hbox; have GW399 := zgs hg (zs1 HB GE398); have GE399 := zgs hg (zs1 HB GE398); have NB398_399 := zne hg BK398; have NB399_398 := znf hg BK398; replace BK398 := zb BK398 hb; replace HB := zE (zs1 HB GE398) hb; clear hb hbox hg; have hnb33 := NB398_399.out; have hnc33 := NB399_398.out; obtain ⟨hcz34_0, hcz34_1, hcz34_2, hcz34_3, hcz34_4⟩ := zd5 BK398; obtain ⟨hfz34_0, hfz34_1, hfz34_2, hfz34_3, hfz34_4⟩ := zn5 BK398) | ((with_reducible refine gate_callee (f := 99) rfl ?_); refine zgl (N := some 12) Try.func99 #[.agg #[.int .i64 a0_0, .int .i64 a0_1, .slice A0_2 l0_2.length c0_2, .int .i64 a0_3, .int .i64 a0_4]] ?_; (with_reducible refine (impl_FlyPathOk.calls k a0_0 a0_1 _ _ l0_2 a0_3 a0_4 true _ ?side1 ?side2 A5.out).mono ?_); (case side1 => exact zC HR0_2 HB); (case side2 => exact HC0_2.out); rintro e w35 ⟨rfl, hb⟩; refine ⟨_, rfl, ?_⟩; replace BK398 := zb BK398 hb; replace BK399 := zb BK399 hb; replace HB := zE (zs2 HB GE398 GE399) hb; (try clear hb); (try clear hb2); (try clear hk); (try clear hi); obtain ⟨hcz36_0, hcz36_1, hcz36_2, hcz36_3, hcz36_4⟩ := zd5 BK398; obtain ⟨hfz36_0, hfz36_1, hfz36_2, hfz36_3, hfz36_4⟩ := zn5 BK398; obtain ⟨hcz37_0, hcz37_1, hcz37_2, hcz37_3, hcz37_4⟩ := zd5 BK399; obtain ⟨hfz37_0, hfz37_1, hfz37_2, hfz37_3, hfz37_4⟩ := zn5 BK399))
  refine bodyPost_ret (results_ct rfl _ _ gb399 68 #[.int .i64 0, .int .i64 0, .slice none 0 0, .int .i64 0, .int .i64 0] (0, 0) _ rfl ?hz Try.underlying68 rfl (by kernel_rfl)) rfl ?_; (case hz => exact zpb BK399)
  exact ⟨_, ze, by first | exact Kd.R_nil _ _ _ _ _ | exact Kd.N_nil _ _ _ _ _ | exact Kd.V_nil _ _ _ _ _ | exact Kd.Q_nil _ _ _ _ _ | exact Kd.S_nil _ _ _ _ _, zs2 HB GE398 GE399⟩
 rw [if_neg c30] at H
 have c30b0 : decide (a2 < 0) = false := decide_eq_false c30
 clear c30
 by_cases c38 : a2 > a3
 ·rw [if_pos c38] at H
  have c38b0 : decide (a3 < a2) = true := decide_eq_true c38
  clear c38
  simp only [Option.some.injEq, Prod.mk.injEq] at H
  obtain ⟨rfl, rfl, rfl, rfl, rfl, rfl⟩ := H
  go_enter Try.func72, Try.ntmps72
  go_wp2_with (first | ((with_reducible refine gate_dst (N := 4) rfl ?_); (try (refine gate_guard (by rfl) ?_; dsimp only)); refine zbx 4 #[.int .i64 a0_0, .int .i64 a0_1, .slice A0_2 l0_2.length c0_2, .int .i64 a0_3, .int .i64 a0_4] 68 ?_; intro gb398 hg w39 hbox hb; have BK398 := zA hbox; have GW398 := zgs hg (zs0 HB); have GE398 := zgs hg (zs0 HB); replace HB := zE (zs0 HB) hb; clear hb hbox hg) | ((with_reducible refine gate_dst (N := 8) rfl ?_); (try (refine gate_guard (by rfl) ?_; dsimp only)); refine zbx 8 #[.int .i64 0, .int .i64 0, .slice none 0 0, .int .i64 0, .int .i64 0] 68 ?_; intro gb399 hg w40 hbox hb; have BK399 := zA hbox; have GW399 := zgs hg (zs1 HB GE398); have GE399 := zgs hg (zs1 HB GE398); have NB398_399 := zne hg BK398; have NB399_398 := znf hg BK398; replace BK398 := zb BK398 hb; replace HB := zE (zs1 HB GE398) hb; clear hb hbox hg; have hnb41 := NB398_399.out; have hnc41 := NB399_398.out; obtain ⟨hcz42_0, hcz42_1, hcz42_2, hcz42_3, hcz42_4⟩ := zd5 BK398; obtain ⟨hfz42_0, hfz42_1, hfz42_2, hfz42_3, hfz42_4⟩ := zn5 BK398) | ((with_reducible refine gate_callee (f := 99) rfl ?_); refine zgl (N := some 12) Try.func99 #[.agg #[.int .i64 a0_0, .int .i64 a0_1, .slice A0_2 l0_2.length c0_2, .int .i64 a0_3, .int .i64 a0_4]] ?_; (with_reducible refine (impl_FlyPathOk.calls k a0_0 a0_1 _ _ l0_2 a0_3 a0_4 true _ ?side1 ?side2 A5.out).mono ?_); (case side1 => exact zC HR0_2 HB); (case side2 => exact HC0_2.out); rintro e w43 ⟨rfl, hb⟩; refine ⟨_, rfl, ?_⟩; replace BK398 := zb BK398 hb; replace BK399 := zb BK399 hb; replace HB := zE (zs2 HB GE398 GE399) hb; (try clear hb); (try clear hb2); (try clear hk); (try clear hi); obtain ⟨hcz44_0, hcz44_1, hcz44_2, hcz44_3, hcz44_4⟩ := zd5 BK398; obtain ⟨hfz44_0, hfz44_1, hfz44_2, hfz44_3, hfz44_4⟩ := zn5 BK398; obtain ⟨hcz45_0, hcz45_1, hcz45_2, hcz45_3, hcz45_4⟩ := zd5 BK399; obtain ⟨hfz45_0, hfz45_1, hfz45_2, hfz45_3, hfz45_4⟩ := zn5 BK399))
  refine bodyPost_ret (results_ct rfl _ _ gb399 68 #[.int .i64 0, .int .i64 0, .slice none 0 0, .int .i64 0, .int .i64 0] (0, 0) _ rfl ?hz Try.underlying68 rfl (by kernel_rfl)) rfl ?_; (case hz => exact zpb BK399)
  exact ⟨_, ze, by first | exact Kd.R_nil _ _ _ _ _ | exact Kd.N_nil _ _ _ _ _ | exact Kd.V_nil _ _ _ _ _ | exact Kd.Q_nil _ _ _ _ _ | exact Kd.S_nil _ _ _ _ _, zs2 HB GE398 GE399⟩
 rw [if_neg c38] at H
 have c38b0 : decide (a3 < a2) = false := decide_eq_false c38
 clear c38
 by_cases c46 : 0 ≤ a1
 rotate_left
 ·rw [if_neg c46] at H
  exact absurd H (by simp)
 rw [if_pos c46] at H
 have c46b0 : decide (0 ≤ a1) = true := decide_eq_true c46
 clear c46
 by_cases c47 : a1 < (l0_2.length : Int)
 rotate_left
 ·rw [if_neg c47] at H
  exact absurd H (by simp)
 rw [if_pos c47] at H
 have c47b0 : decide (a1 < (l0_2.length : Int)) = true := decide_eq_true c47
 clear c47
 obtain ⟨ji48, hji48⟩ : ∃ j_ : Int, (mx ((rd_T132 l0_2 a1).f4) a2) = j_ := ⟨_, rfl⟩
 first | rw [hji48] at H | simp only [hji48] at H
 (try rw [hji48] at A5)
 have hji48_ : (if ((rd_T132 l0_2 a1).f4) < a2 then a2 else ((rd_T132 l0_2 a1).f4)) = ji48 := hji48
 obtain ⟨ji49, hji49⟩ : ∃ j_ : Int, (mn ((rd_T132 l0_2 a1).f5) a2) = j_ := ⟨_, rfl⟩
 first | rw [hji49] at H | simp only [hji49] at H
 (try rw [hji49] at A5)
 have hji49_ : (if a2 < ((rd_T132 l0_2 a1).f5) then a2 else ((rd_T132 l0_2 a1).f5)) = ji49 := hji49
 replace H := Option.bind_eq_some_iff.mp H
 obtain ⟨⟨t403, t404, t405, t408, t409, t410⟩, A500, H⟩ := H
 replace H : (some (t403, t404, t405, t408, t409, t410)) = some (r1, r2, r3, r4, r5, r6) := H
 have A50 := zA A500
 clear A500
 simp only [Option.some.injEq, Prod.mk.injEq] at H
 obtain ⟨rfl, rfl, rfl, rfl, rfl, rfl⟩ := H
 go_enter Try.func72, Try.ntmps72
 go_wp2_with (first | ((with_reducible refine gate_dst (N := 4) rfl ?_); (try (refine gate_guard (by rfl) ?_; dsimp only)); refine zbx 4 #[.int .i64 a0_0, .int .i64 a0_1, .slice A0_2 l0_2.length c0_2, .int .i64 a0_3, .int .i64 a0_4] 68 ?_; intro gb398 hg w51 hbox hb; have BK398 := zA hbox; have GW398 := zgs hg (zs0 HB); have GE398 := zgs hg (zs0 HB); replace HB := zE (zs0 HB) hb; clear hb hbox hg) | ((with_reducible refine gate_dst (N := 8) rfl ?_); (try (refine gate_guard (by rfl) ?_; dsimp only)); refine zbx 8 #[.int .i64 0, .int .i64 0, .slice none 0 0, .int .i64 0, .int .i64 0] 68 ?_; intro gb399 hg w52 hbox hb; have BK399 := zA hbox; have GW399 := zgs hg (zs1 HB GE398); have GE399 := zgs hg (zs1 HB GE398); have NB398_399 := zne hg BK398; have NB399_398 := znf hg BK398; replace BK398 := zb BK398 hb; replace HB := zE (zs1 HB GE398) hb; clear hb hbox hg; have hnb53 := NB398_399.out; have hnc53 := NB399_398.out; obtain ⟨hcz54_0, hcz54_1, hcz54_2, hcz54_3, hcz54_4⟩ := zd5 BK398; obtain ⟨hfz54_0, hfz54_1, hfz54_2, hfz54_3, hfz54_4⟩ := zn5 BK398) | ((with_reducible refine gate_callee (f := 99) rfl ?_); refine zgl (N := some 12) Try.func99 #[.agg #[.int .i64 a0_0, .int .i64 a0_1, .slice A0_2 l0_2.length c0_2, .int .i64 a0_3, .int .i64 a0_4]] ?_; (with_reducible refine (impl_FlyPathOk.calls k a0_0 a0_1 _ _ l0_2 a0_3 a0_4 true _ ?side1 ?side2 A5.out).mono ?_); (case side1 => exact zC HR0_2 HB); (case side2 => exact HC0_2.out); rintro e w55 ⟨rfl, hb⟩; refine ⟨_, rfl, ?_⟩; replace BK398 := zb BK398 hb; replace BK399 := zb BK399 hb; replace HB := zE (zs2 HB GE398 GE399) hb; (try clear hb); (try clear hb2); (try clear hk); (try clear hi); obtain ⟨hcz56_0, hcz56_1, hcz56_2, hcz56_3, hcz56_4⟩ := zd5 BK398; obtain ⟨hfz56_0, hfz56_1, hfz56_2, hfz56_3, hfz56_4⟩ := zn5 BK398; have p401 : 0 ≤ (a1 : Int) := za; have q401 : a1 < (l0_2.length : Int) := za; obtain ⟨ad401, e401, hx401_0, hx401_1, hx401_2, hx401_3, hx401_4, hx401_5, hx401_6⟩ := at_T132 HR0_2.out a1 p401 q401; cases e401; replace hx401_0 := zx HB hx401_0; replace hx401_1 := zx HB hx401_1; replace hx401_2 := zx HB hx401_2; replace hx401_3 := zx HB hx401_3; replace hx401_4 := zx HB hx401_4; replace hx401_5 := zx HB hx401_5; replace hx401_6 := zx HB hx401_6; replace p401 := eq_true p401; replace q401 := eq_true q401) | ((with_reducible refine gate_dst (N := 10) rfl ?_); (try (refine gate_guard (by rfl) ?_; dsimp only)); refine zbx 10 #[.int .i64 0, .int .i64 0, .int .i64 0, .int .i64 0, .int .i64 0, .int .i64 0, .bool false] 132 ?_; intro gb402 hg w57 hbox hb; have BK402 := zA hbox; have GW402 := zgs hg (zs2 HB GE398 GE399); have GE402 := zgs hg (zs2 HB GE398 GE399); have NB398_402 := zne hg BK398; have NB402_398 := znf hg BK398; have NB399_402 := zne hg BK399; have NB402_399 := znf hg BK399; replace BK398 := zb BK398 hb; replace BK399 := zb BK399 hb; replace HB := zE (zs2 HB GE398 GE399) hb; clear hb hbox hg; have hnb58 := NB402_398.out; have hnc58 := NB398_402.out; have hnb59 := NB402_399.out; have hnc59 := NB399_402.out; obtain ⟨hcz60_0, hcz60_1, hcz60_2, hcz60_3, hcz60_4, hcz60_5, hcz60_6⟩ := zd7 BK402; obtain ⟨hfz60_0, hfz60_1, hfz60_2, hfz60_3, hfz60_4, hfz60_5, hfz60_6⟩ := zn7 BK402; obtain ⟨hcz61_0, hcz61_1, hcz61_2, hcz61_3, hcz61_4⟩ := zd5 BK398; obtain ⟨hfz61_0, hfz61_1, hfz61_2, hfz61_3, hfz61_4⟩ := zn5 BK398) | ((with_reducible refine gate_callee (f := 133) rfl ?_); refine goesL_ (some 55) rfl rfl Try.func133 (by kernel_rfl) rfl #[.agg #[.int .i64 a0_0, .int .i64 a0_1, .slice (some ad401) l0_2.length c0_2, .int .i64 a0_3, .int .i64 a0_4], .int .i64 a1, .int .i64 ji48, .int .i64 ji49, .int .i64 a3] rfl (by (try simp only [List.map_toArray, List.map_cons, List.map_nil]); first | done | (simp only [hji48, hji49]; rfl) | rfl | (simp only [List.length_drop, List.length_take]; rfl)) ?_; (with_reducible refine (impl_FlyPath_rest.calls k a0_0 a0_1 _ _ l0_2 a0_3 a0_4 a1 ji48 ji49 a3 t403 t404 t405 t408 t409 t410 _ ?side1 ?side2 A50.out).mono ?_); (case side1 => exact Kd.C_below HR0_2.out (zs3 HB GE398 GE399 GE402)); (case side2 => exact HC0_2.out); rintro e w62 ⟨v406, rfl, ho0, hb⟩; refine ⟨_, rfl, ?_⟩; have HO407 := zA (Kd.R_lower (Kd.R_newB ho0 (g := gb402) (o := .cells #[.int .i64 ((rd_T132 l0_2 a1).f0), .int .i64 ((rd_T132 l0_2 a1).f1), .int .i64 ((rd_T132 l0_2 a1).f2), .int .i64 ((rd_T132 l0_2 a1).f3), .int .i64 ((rd_T132 l0_2 a1).f4), .int .i64 ((rd_T132 l0_2 a1).f5), .bool ((rd_T132 l0_2 a1).f6)] 132 (0, 0)) (zpb BK402)) (below_size (zs3 HB GE398 GE399 GE402))); replace BK398 := zA (blk_below (g := gb398) (o := .cells #[.int .i64 a0_0, .int .i64 a0_1, .slice (some ad401) l0_2.length c0_2, .int .i64 a0_3, .int .i64 a0_4] 68 (0, 0)) (zpf BK398 NB398_402) hb); replace BK399 := zA (blk_below (g := gb399) (o := .cells #[.int .i64 0, .int .i64 0, .slice none 0 0, .int .i64 0, .int .i64 0] 68 (0, 0)) (zpf BK399 NB399_402) hb); replace BK402 := zA (blk_below (g := gb402) (o := .cells #[.int .i64 ((rd_T132 l0_2 a1).f0), .int .i64 ((rd_T132 l0_2 a1).f1), .int .i64 ((rd_T132 l0_2 a1).f2), .int .i64 ((rd_T132 l0_2 a1).f3), .int .i64 ((rd_T132 l0_2 a1).f4), .int .i64 ((rd_T132 l0_2 a1).f5), .bool ((rd_T132 l0_2 a1).f6)] 132 (0, 0)) (zpb BK402) hb); replace HB := zE (zs3 HB GE398 GE399 GE402) hb; (try clear hb); (try clear hb2); (try clear hk); (try clear hi); (try clear ho0); obtain ⟨hcz63_0, hcz63_1, hcz63_2, hcz63_3, hcz63_4⟩ := zd5 BK399; obtain ⟨hfz63_0, hfz63_1, hfz63_2, hfz63_3, hfz63_4⟩ := zn5 BK399; obtain ⟨Ao64, co64, eo64⟩ := Kd.R_slice HO407.out; subst eo64))
 refine bodyPost_ret (results_ct rfl _ _ gb399 68 #[.int .i64 t403, .int .i64 t404, .slice Ao64 t405.length co64, .int .i64 t408, .int .i64 t409] (0, 0) _ rfl ?hz Try.underlying68 rfl (by kernel_rfl)) rfl ?_; (case hz => exact zpb BK399)
 exact ⟨_, by first | rfl | (simp [errW_none, errW_some] <;> rfl) | (simp only [← hji48, ← hji49]; first | rfl | (simp [errW_none, errW_some] <;> rfl)) | (simp [*, errW_none, errW_some] <;> rfl), by (with_reducible repeat (first | apply Kd.R_alloc | apply Kd.R_drewN | apply Kd.R_drew)); exact Kd.R_mono (Kd.R_far (p := ⟨gb399, 4, none⟩) (Kd.R_far (p := ⟨gb399, 3, none⟩) (Kd.R_far (p := ⟨gb399, 2, none⟩) (Kd.R_far (p := ⟨gb399, 1, none⟩) (Kd.R_far (p := ⟨gb399, 0, none⟩) (Kd.R_types HO407.out BK399.out (by decide)) (fun _ hk => hk.2) (.int .i64 t403)) (fun _ hk => hk.2) (.int .i64 t404)) (fun _ hk => hk.2) (.slice Ao64 t405.length co64)) (fun _ hk => hk.2) (.int .i64 t408)) (fun _ hk => hk.2) (.int .i64 t409)) (fun _ hk => trivial), zs3 HB GE398 GE399 GE402⟩
end Go.Proofs.Ytbmplfpnhjhoiaa.QFnExactFlyRest
