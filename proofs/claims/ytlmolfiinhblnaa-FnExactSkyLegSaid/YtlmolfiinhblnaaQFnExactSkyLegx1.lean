/- The walk of what the law FnExactSkyLeg reaches: laid by a program of this session (ownprint.py). -/
import Derived.Test.YtlmolfiinhblnaaQFnExactSkyLegx0
namespace Go.Proofs.Ytlmolfiinhblnaa.QFnExactSkyLeg
open Go.RowKit Go.Proofs.YtlmolfiinhblnaaW.PrintWords Go.Proofs.YtlmolfiinhblnaaW.PrintLast Go.Proofs.YtlmolfiinhblnaaW.PrintMore Go.Proofs.Ytlmolfiinhblnaa.Z
attribute [local go_sem] max2_int min2_int max_two min_two max_three min_three max_four min_four zdn   -- for this text's walks alone
set_option linter.unusedVariables false
set_option linter.unusedSimpArgs false
def spec_l1In.f (a0 : Int) (a1 : Int) (a2 : Int) : Option (Bool) := if a0 ≥ a1 then (some (decide (a0 ≤ a2))) else (some false)
set_option maxHeartbeats 8000000 in
set_option maxRecDepth 100000 in
theorem spec_l1In.calls (a0 : Int) (a1 : Int) (a2 : Int) (r : Bool) (w : World) (h : spec_l1In.f a0 a1 a2 = some r) :
 Calls Try.prog 16 #[.int .i64 a0, .int .i64 a1, .int .i64 a2] w fun e w' => e = .returned (.bool r) ∧ Drawn0 w w' := by
 have H : (if a0 ≥ a1 then (some (decide (a0 ≤ a2))) else (some false)) = some r := h
 clear h
 by_cases c4 : a0 ≥ a1
 ·rw [if_pos c4] at H
  have c4b0 : decide (a1 ≤ a0) = true := decide_eq_true c4
  clear c4
  obtain rfl := Option.some.inj H
  go_enter Try.func16, Try.ntmps16
  go_wp2
  go_ret
  exact ⟨by first | rfl | (simp; done) | (simp [*]; done), by repeat (first | exact Drawn0.refl _ | apply Drawn0.step)⟩
 rw [if_neg c4] at H
 have c4b0 : decide (a1 ≤ a0) = false := decide_eq_false c4
 clear c4
 obtain rfl := Option.some.inj H
 go_enter Try.func16, Try.ntmps16
 go_wp2
 go_ret
 exact ⟨by first | rfl | (simp; done) | (simp [*]; done), by repeat (first | exact Drawn0.refl _ | apply Drawn0.step)⟩
def spec_l6Inside.f (a0_0 : Int) (a0_1 : Int) : Option (Bool) := (spec_l1In.f a0_0 0 15).bind fun t102 => (if t102 = true then ((spec_l1In.f a0_1 0 15).bind fun t103 => (some t103)) else (some false))
set_option maxHeartbeats 8000000 in
set_option maxRecDepth 100000 in
theorem spec_l6Inside.calls (a0_0 : Int) (a0_1 : Int) (r : Bool) (w : World) (h : spec_l6Inside.f a0_0 a0_1 = some r) :
 Calls Try.prog 10 #[.agg #[.int .i64 a0_0, .int .i64 a0_1]] w fun e w' => e = .returned (.bool r) ∧ Below w.heap.size w w' := by
 have hu26 := Try.underlying26
 have HB := zA (Below.refl w.heap.size w)
 have H : ((spec_l1In.f a0_0 0 15).bind fun t102 => (if t102 = true then ((spec_l1In.f a0_1 0 15).bind fun t103 => (some t103)) else (some false))) = some r := h
 clear h
 replace H := zbd H; obtain ⟨t102, A2, H⟩ := H
 by_cases c3 : t102 = true
 rotate_left
 ·replace c3 := Bool.eq_false_iff.mpr c3
  subst c3
  have H1 : (some false) = some r := by rw [if_neg (show ¬ (false = true) by decide)] at H; exact H
  clear H
  have H := H1
  clear H1
  obtain rfl := Option.some.inj H
  go_enter Try.func10, Try.ntmps10
  go_wp2_with (first | ((with_reducible refine gate_dst (N := 1) rfl ?_); refine zbx 1 #[.int .i64 a0_0, .int .i64 a0_1] 26 ?_; intro gb101 hg w7 hbox hb; have BK101 := zA hbox; have GW101 := zgs hg (zs0 HB); have GE101 := zgs hg (zs0 HB); replace HB := zE (zs0 HB) hb; clear hb hbox hg; obtain ⟨hcz8_0, hcz8_1⟩ := zd2 BK101; obtain ⟨hfz8_0, hfz8_1⟩ := zn2 BK101) | ((with_reducible refine gate_callee (f := 16) rfl ?_); refine zgl (N := some 5) Try.func16 #[.int .i64 a0_0, .int .i64 0, .int .i64 15] ?_; (with_reducible refine (spec_l1In.calls a0_0 0 15 false _ A2.out).mono ?_); rintro e w' ⟨rfl, ⟨nd, rfl⟩⟩; refine ⟨_, rfl, ?_⟩))
  go_ret
  exact ⟨ze, zs1 HB GE101⟩
 subst c3
 have H1 : ((spec_l1In.f a0_1 0 15).bind fun t103 => (some t103)) = some r := by rw [if_pos rfl] at H; exact H
 clear H
 have H := H1
 clear H1
 replace H := zbd H; obtain ⟨t103, A4, H⟩ := H
 obtain rfl := Option.some.inj H
 go_enter Try.func10, Try.ntmps10
 go_wp2_with (first | ((with_reducible refine gate_dst (N := 1) rfl ?_); refine zbx 1 #[.int .i64 a0_0, .int .i64 a0_1] 26 ?_; intro gb101 hg w5 hbox hb; have BK101 := zA hbox; have GW101 := zgs hg (zs0 HB); have GE101 := zgs hg (zs0 HB); replace HB := zE (zs0 HB) hb; clear hb hbox hg; obtain ⟨hcz6_0, hcz6_1⟩ := zd2 BK101; obtain ⟨hfz6_0, hfz6_1⟩ := zn2 BK101) | ((with_reducible refine gate_callee (f := 16) rfl ?_); refine zgl (N := some 5) Try.func16 #[.int .i64 a0_0, .int .i64 0, .int .i64 15] ?_; (with_reducible refine (spec_l1In.calls a0_0 0 15 true _ A2.out).mono ?_); rintro e w' ⟨rfl, ⟨nd, rfl⟩⟩; refine ⟨_, rfl, ?_⟩) | (go_at_call 16; (with_reducible refine (spec_l1In.calls a0_1 0 15 t103 _ A4.out).mono ?_); rintro e w' ⟨rfl, ⟨nd, rfl⟩⟩))
 go_ret
 exact ⟨ze, zs1 HB GE101⟩
def spec_l6Abs.f (a0 : Int) : Option (Int) := if a0 < 0 then (some (wrap64 (-a0))) else (some a0)
set_option maxHeartbeats 8000000 in
set_option maxRecDepth 100000 in
theorem spec_l6Abs.calls (a0 : Int) (r : Int) (w : World) (h : spec_l6Abs.f a0 = some r) :
 Calls Try.prog 17 #[.int .i64 a0] w fun e w' => e = .returned (.int .i64 r) ∧ Drawn0 w w' := by
 have H : (if a0 < 0 then (some (wrap64 (-a0))) else (some a0)) = some r := h
 clear h
 by_cases c2 : a0 < 0
 ·rw [if_pos c2] at H
  have c2b0 : decide (a0 < 0) = true := decide_eq_true c2
  clear c2
  obtain rfl := Option.some.inj H
  go_enter Try.func17, Try.ntmps17
  go_wp2
  go_ret
  exact ⟨by first | rfl | (simp; done) | (simp [*]; done), by repeat (first | exact Drawn0.refl _ | apply Drawn0.step)⟩
 rw [if_neg c2] at H
 have c2b0 : decide (a0 < 0) = false := decide_eq_false c2
 clear c2
 obtain rfl := Option.some.inj H
 go_enter Try.func17, Try.ntmps17
 go_wp2
 go_ret
 exact ⟨by first | rfl | (simp; done) | (simp [*]; done), by repeat (first | exact Drawn0.refl _ | apply Drawn0.step)⟩
def spec_l6Steps.f (a0_0 : Int) (a0_1 : Int) (a1_0 : Int) (a1_1 : Int) : Option (Int) := (spec_l6Abs.f (wrap64 (a0_0 - a1_0))).bind fun t106 => ((spec_l6Abs.f (wrap64 (a0_1 - a1_1))).bind fun t107 => (if t106 > t107 then (some t106) else (some t107)))
set_option maxHeartbeats 8000000 in
set_option maxRecDepth 100000 in
theorem spec_l6Steps.calls (a0_0 : Int) (a0_1 : Int) (a1_0 : Int) (a1_1 : Int) (r : Int) (w : World) (h : spec_l6Steps.f a0_0 a0_1 a1_0 a1_1 = some r) :
 Calls Try.prog 11 #[.agg #[.int .i64 a0_0, .int .i64 a0_1], .agg #[.int .i64 a1_0, .int .i64 a1_1]] w fun e w' => e = .returned (.int .i64 r) ∧ Below w.heap.size w w' := by
 have hu26 := Try.underlying26
 have HB := zA (Below.refl w.heap.size w)
 have H : ((spec_l6Abs.f (wrap64 (a0_0 - a1_0))).bind fun t106 => ((spec_l6Abs.f (wrap64 (a0_1 - a1_1))).bind fun t107 => (if t106 > t107 then (some t106) else (some t107)))) = some r := h
 clear h
 replace H := zbd H; obtain ⟨t106, A3, H⟩ := H
 replace H := Option.bind_eq_some_iff.mp H
 obtain ⟨t107, A40, H⟩ := H
 replace H : (if t106 > t107 then (some t106) else (some t107)) = some r := H
 have A4 := zA A40
 clear A40
 by_cases c5 : t106 > t107
 ·rw [if_pos c5] at H
  have c5b0 : decide (t107 < t106) = true := decide_eq_true c5
  clear c5
  obtain rfl := Option.some.inj H
  go_enter Try.func11, Try.ntmps11
  go_wp2_with (first | ((with_reducible refine gate_dst (N := 2) rfl ?_); refine zbx 2 #[.int .i64 a0_0, .int .i64 a0_1] 26 ?_; intro gb104 hg w6 hbox hb; have BK104 := zA hbox; have GW104 := zgs hg (zs0 HB); have GE104 := zgs hg (zs0 HB); replace HB := zE (zs0 HB) hb; clear hb hbox hg) | ((with_reducible refine gate_dst (N := 3) rfl ?_); refine zbx 3 #[.int .i64 a1_0, .int .i64 a1_1] 26 ?_; intro gb105 hg w7 hbox hb; have BK105 := zA hbox; have GW105 := zgs hg (zs1 HB GE104); have GE105 := zgs hg (zs1 HB GE104); have NB104_105 := zne hg BK104; have NB105_104 := znf hg BK104; replace BK104 := zb BK104 hb; replace HB := zE (zs1 HB GE104) hb; clear hb hbox hg; have hnb8 := NB104_105.out; have hnc8 := NB105_104.out; obtain ⟨hcz9_0, hcz9_1⟩ := zd2 BK104; obtain ⟨hfz9_0, hfz9_1⟩ := zn2 BK104; obtain ⟨hcz10_0, hcz10_1⟩ := zd2 BK105; obtain ⟨hfz10_0, hfz10_1⟩ := zn2 BK105) | ((with_reducible refine gate_callee (f := 17) rfl ?_); refine zgl (N := some 12) Try.func17 #[.int .i64 (wrap64 (a0_0 - a1_0))] ?_; (with_reducible refine (spec_l6Abs.calls (wrap64 (a0_0 - a1_0)) t106 _ A3.out).mono ?_); rintro e w' ⟨rfl, ⟨nd, rfl⟩⟩; refine ⟨_, rfl, ?_⟩) | ((with_reducible refine gate_callee (f := 17) rfl ?_); refine zgl (N := some 18) Try.func17 #[.int .i64 (wrap64 (a0_1 - a1_1))] ?_; (with_reducible refine (spec_l6Abs.calls (wrap64 (a0_1 - a1_1)) t107 _ A4.out).mono ?_); rintro e w' ⟨rfl, ⟨nd, rfl⟩⟩; refine ⟨_, rfl, ?_⟩))
  go_ret
  exact ⟨ze, zs2 HB GE104 GE105⟩
 rw [if_neg c5] at H
 have c5b0 : decide (t107 < t106) = false := decide_eq_false c5
 clear c5
 obtain rfl := Option.some.inj H
 go_enter Try.func11, Try.ntmps11
 go_wp2_with (first | ((with_reducible refine gate_dst (N := 2) rfl ?_); refine zbx 2 #[.int .i64 a0_0, .int .i64 a0_1] 26 ?_; intro gb104 hg w11 hbox hb; have BK104 := zA hbox; have GW104 := zgs hg (zs0 HB); have GE104 := zgs hg (zs0 HB); replace HB := zE (zs0 HB) hb; clear hb hbox hg) | ((with_reducible refine gate_dst (N := 3) rfl ?_); refine zbx 3 #[.int .i64 a1_0, .int .i64 a1_1] 26 ?_; intro gb105 hg w12 hbox hb; have BK105 := zA hbox; have GW105 := zgs hg (zs1 HB GE104); have GE105 := zgs hg (zs1 HB GE104); have NB104_105 := zne hg BK104; have NB105_104 := znf hg BK104; replace BK104 := zb BK104 hb; replace HB := zE (zs1 HB GE104) hb; clear hb hbox hg; have hnb13 := NB104_105.out; have hnc13 := NB105_104.out; obtain ⟨hcz14_0, hcz14_1⟩ := zd2 BK104; obtain ⟨hfz14_0, hfz14_1⟩ := zn2 BK104; obtain ⟨hcz15_0, hcz15_1⟩ := zd2 BK105; obtain ⟨hfz15_0, hfz15_1⟩ := zn2 BK105) | ((with_reducible refine gate_callee (f := 17) rfl ?_); refine zgl (N := some 12) Try.func17 #[.int .i64 (wrap64 (a0_0 - a1_0))] ?_; (with_reducible refine (spec_l6Abs.calls (wrap64 (a0_0 - a1_0)) t106 _ A3.out).mono ?_); rintro e w' ⟨rfl, ⟨nd, rfl⟩⟩; refine ⟨_, rfl, ?_⟩) | ((with_reducible refine gate_callee (f := 17) rfl ?_); refine zgl (N := some 18) Try.func17 #[.int .i64 (wrap64 (a0_1 - a1_1))] ?_; (with_reducible refine (spec_l6Abs.calls (wrap64 (a0_1 - a1_1)) t107 _ A4.out).mono ?_); rintro e w' ⟨rfl, ⟨nd, rfl⟩⟩; refine ⟨_, rfl, ?_⟩))
 go_ret
 exact ⟨ze, zs2 HB GE104 GE105⟩
def spec_l6Part.f (a0 : Int) (a1 : Int) (a2 : Int) : Option (Int) := if (wrap64 (2 * a2)) = 0 then (none) else (if (wrap64 ((wrap64 ((wrap64 (2 * a1)) * a0)) + a2)) < 0 then (if (wrap64 ((wrap64 ((wrap64 (Int.tdiv (wrap64 ((wrap64 ((wrap64 (2 * a1)) * a0)) + a2)) (wrap64 (2 * a2)))) * 2)) * a2)) = (wrap64 ((wrap64 ((wrap64 (2 * a1)) * a0)) + a2)) then (some (wrap64 (Int.tdiv (wrap64 ((wrap64 ((wrap64 (2 * a1)) * a0)) + a2)) (wrap64 (2 * a2))))) else (some (wrap64 ((wrap64 (Int.tdiv (wrap64 ((wrap64 ((wrap64 (2 * a1)) * a0)) + a2)) (wrap64 (2 * a2)))) - 1)))) else (some (wrap64 (Int.tdiv (wrap64 ((wrap64 ((wrap64 (2 * a1)) * a0)) + a2)) (wrap64 (2 * a2))))))
set_option maxHeartbeats 8000000 in
set_option maxRecDepth 100000 in
theorem spec_l6Part.calls (a0 : Int) (a1 : Int) (a2 : Int) (r : Int) (w : World) (h : spec_l6Part.f a0 a1 a2 = some r) :
 Calls Try.prog 12 #[.int .i64 a0, .int .i64 a1, .int .i64 a2] w fun e w' => e = .returned (.int .i64 r) ∧ Drawn0 w w' := by
 have H : (if (wrap64 (2 * a2)) = 0 then (none) else (if (wrap64 ((wrap64 ((wrap64 (2 * a1)) * a0)) + a2)) < 0 then (if (wrap64 ((wrap64 ((wrap64 (Int.tdiv (wrap64 ((wrap64 ((wrap64 (2 * a1)) * a0)) + a2)) (wrap64 (2 * a2)))) * 2)) * a2)) = (wrap64 ((wrap64 ((wrap64 (2 * a1)) * a0)) + a2)) then (some (wrap64 (Int.tdiv (wrap64 ((wrap64 ((wrap64 (2 * a1)) * a0)) + a2)) (wrap64 (2 * a2))))) else (some (wrap64 ((wrap64 (Int.tdiv (wrap64 ((wrap64 ((wrap64 (2 * a1)) * a0)) + a2)) (wrap64 (2 * a2)))) - 1)))) else (some (wrap64 (Int.tdiv (wrap64 ((wrap64 ((wrap64 (2 * a1)) * a0)) + a2)) (wrap64 (2 * a2))))))) = some r := h
 clear h
 by_cases c4 : (wrap64 (2 * a2)) = 0
 ·rw [if_pos c4] at H
  exact absurd H (by simp)
 rw [if_neg c4] at H
 have c4b0 : ((wrap64 (2 * a2)) == 0) = false := beq_eq_false_iff_ne.mpr c4
 have c4b1 : ((wrap64 (2 * a2)) != 0) = true := bne_iff_ne.mpr c4
 by_cases c5 : (wrap64 ((wrap64 ((wrap64 (2 * a1)) * a0)) + a2)) < 0
 rotate_left
 ·rw [if_neg c5] at H
  have c5b0 : decide ((wrap64 ((wrap64 ((wrap64 (2 * a1)) * a0)) + a2)) < 0) = false := decide_eq_false c5
  clear c5
  obtain rfl := Option.some.inj H
  go_enter Try.func12, Try.ntmps12
  go_wp2
  go_ret
  exact ⟨by first | rfl | (simp; done) | (simp [*]; done), by repeat (first | exact Drawn0.refl _ | apply Drawn0.step)⟩
 rw [if_pos c5] at H
 have c5b0 : decide ((wrap64 ((wrap64 ((wrap64 (2 * a1)) * a0)) + a2)) < 0) = true := decide_eq_true c5
 clear c5
 by_cases c6 : (wrap64 ((wrap64 ((wrap64 (Int.tdiv (wrap64 ((wrap64 ((wrap64 (2 * a1)) * a0)) + a2)) (wrap64 (2 * a2)))) * 2)) * a2)) = (wrap64 ((wrap64 ((wrap64 (2 * a1)) * a0)) + a2))
 rotate_left
 ·rw [if_neg c6] at H
  have c6b0 : ((wrap64 ((wrap64 ((wrap64 (Int.tdiv (wrap64 ((wrap64 ((wrap64 (2 * a1)) * a0)) + a2)) (wrap64 (2 * a2)))) * 2)) * a2)) == (wrap64 ((wrap64 ((wrap64 (2 * a1)) * a0)) + a2))) = false := beq_eq_false_iff_ne.mpr c6
  have c6b1 : ((wrap64 ((wrap64 ((wrap64 (Int.tdiv (wrap64 ((wrap64 ((wrap64 (2 * a1)) * a0)) + a2)) (wrap64 (2 * a2)))) * 2)) * a2)) != (wrap64 ((wrap64 ((wrap64 (2 * a1)) * a0)) + a2))) = true := bne_iff_ne.mpr c6
  obtain rfl := Option.some.inj H
  go_enter Try.func12, Try.ntmps12
  go_wp2
  go_ret
  exact ⟨by first | rfl | (simp; done) | (simp [*]; done), by repeat (first | exact Drawn0.refl _ | apply Drawn0.step)⟩
 rw [if_pos c6] at H
 have c6b0 : ((wrap64 ((wrap64 ((wrap64 (Int.tdiv (wrap64 ((wrap64 ((wrap64 (2 * a1)) * a0)) + a2)) (wrap64 (2 * a2)))) * 2)) * a2)) == (wrap64 ((wrap64 ((wrap64 (2 * a1)) * a0)) + a2))) = true := beq_iff_eq.mpr c6
 have c6b1 : ((wrap64 ((wrap64 ((wrap64 (Int.tdiv (wrap64 ((wrap64 ((wrap64 (2 * a1)) * a0)) + a2)) (wrap64 (2 * a2)))) * 2)) * a2)) != (wrap64 ((wrap64 ((wrap64 (2 * a1)) * a0)) + a2))) = false := bne_eq_false_iff_eq.mpr c6
 clear c6
 obtain rfl := Option.some.inj H
 go_enter Try.func12, Try.ntmps12
 go_wp2
 go_ret
 exact ⟨by first | rfl | (simp; done) | (simp [*]; done), by repeat (first | exact Drawn0.refl _ | apply Drawn0.step)⟩
end Go.Proofs.Ytlmolfiinhblnaa.QFnExactSkyLeg
