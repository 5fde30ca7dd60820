/- The walk of what the law FnSkyLegs reaches: laid by a program of this session (ownprint.py). -/
import Derived.Test.YtaeichaofhcheaaQFnSkyLegsx0
namespace Go.Proofs.Ytaeichaofhcheaa.QFnSkyLegs
open Go.RowKit Go.Proofs.YtaeichaofhcheaaW.PrintWords Go.Proofs.YtaeichaofhcheaaW.PrintLast Go.Proofs.YtaeichaofhcheaaW.PrintMore Go.Proofs.Ytaeichaofhcheaa.Z
attribute [local go_sem] max2_int min2_int max_two min_two max_three min_three max_four min_four zdn   -- for this text's walks alone
set_option linter.unusedVariables false
set_option linter.unusedSimpArgs false
def laws_wmAbs.f (a0 : Int) : Option (Int) := if a0 < 0 then (some (wrap64 (-a0))) else (some a0)
set_option maxHeartbeats 8000000 in
set_option maxRecDepth 100000 in
theorem laws_wmAbs.calls (a0 : Int) (r : Int) (w : World) (h : laws_wmAbs.f a0 = some r) :
 Calls Try.prog 9 #[.int .i64 a0] w fun e w' => e = .returned (.int .i64 r) ∧ Drawn0 w w' := by
 have H : (if a0 < 0 then (some (wrap64 (-a0))) else (some a0)) = some r := h
 clear h
 by_cases c2 : a0 < 0
 ·rw [if_pos c2] at H
  have c2b0 : decide (a0 < 0) = true := decide_eq_true c2
  clear c2
  obtain rfl := Option.some.inj H
  go_enter Try.func9, Try.ntmps9
  go_wp2
  go_ret
  exact ⟨by first | rfl | (simp; done) | (simp [*]; done), by repeat (first | exact Drawn0.refl _ | apply Drawn0.step)⟩
 rw [if_neg c2] at H
 have c2b0 : decide (a0 < 0) = false := decide_eq_false c2
 clear c2
 obtain rfl := Option.some.inj H
 go_enter Try.func9, Try.ntmps9
 go_wp2
 go_ret
 exact ⟨by first | rfl | (simp; done) | (simp [*]; done), by repeat (first | exact Drawn0.refl _ | apply Drawn0.step)⟩
def laws_wmMost.f (a0_0 : Int) (a0_1 : Int) (a1_0 : Int) (a1_1 : Int) : Option (Int) := (laws_wmAbs.f (wrap64 (a0_0 - a1_0))).bind fun t195 => ((laws_wmAbs.f (wrap64 (a0_1 - a1_1))).bind fun t196 => (if t195 > t196 then (some t195) else (some t196)))
set_option maxHeartbeats 8000000 in
set_option maxRecDepth 100000 in
theorem laws_wmMost.calls (a0_0 : Int) (a0_1 : Int) (a1_0 : Int) (a1_1 : Int) (r : Int) (w : World) (h : laws_wmMost.f a0_0 a0_1 a1_0 a1_1 = some r) :
 Calls Try.prog 8 #[.agg #[.int .i64 a0_0, .int .i64 a0_1], .agg #[.int .i64 a1_0, .int .i64 a1_1]] w fun e w' => e = .returned (.int .i64 r) ∧ Below w.heap.size w w' := by
 have hu24 := Try.underlying24
 have HB := zA (Below.refl w.heap.size w)
 have H : ((laws_wmAbs.f (wrap64 (a0_0 - a1_0))).bind fun t195 => ((laws_wmAbs.f (wrap64 (a0_1 - a1_1))).bind fun t196 => (if t195 > t196 then (some t195) else (some t196)))) = some r := h
 clear h
 replace H := zbd H; obtain ⟨t195, A3, H⟩ := H
 replace H := Option.bind_eq_some_iff.mp H
 obtain ⟨t196, A40, H⟩ := H
 replace H : (if t195 > t196 then (some t195) else (some t196)) = some r := H
 have A4 := zA A40
 clear A40
 by_cases c5 : t195 > t196
 ·rw [if_pos c5] at H
  have c5b0 : decide (t196 < t195) = true := decide_eq_true c5
  clear c5
  obtain rfl := Option.some.inj H
  go_enter Try.func8, Try.ntmps8
  go_wp2_with (first | ((with_reducible refine gate_dst (N := 2) rfl ?_); refine zbx 2 #[.int .i64 a0_0, .int .i64 a0_1] 24 ?_; intro gb193 hg w6 hbox hb; have BK193 := zA hbox; have GW193 := zgs hg (zs0 HB); have GE193 := zgs hg (zs0 HB); replace HB := zE (zs0 HB) hb; clear hb hbox hg) | ((with_reducible refine gate_dst (N := 3) rfl ?_); refine zbx 3 #[.int .i64 a1_0, .int .i64 a1_1] 24 ?_; intro gb194 hg w7 hbox hb; have BK194 := zA hbox; have GW194 := zgs hg (zs1 HB GE193); have GE194 := zgs hg (zs1 HB GE193); have NB193_194 := zne hg BK193; have NB194_193 := znf hg BK193; replace BK193 := zb BK193 hb; replace HB := zE (zs1 HB GE193) hb; clear hb hbox hg; have hnb8 := NB193_194.out; have hnc8 := NB194_193.out; obtain ⟨hcz9_0, hcz9_1⟩ := zd2 BK193; obtain ⟨hfz9_0, hfz9_1⟩ := zn2 BK193; obtain ⟨hcz10_0, hcz10_1⟩ := zd2 BK194; obtain ⟨hfz10_0, hfz10_1⟩ := zn2 BK194) | ((with_reducible refine gate_callee (f := 9) rfl ?_); refine zgl (N := some 12) Try.func9 #[.int .i64 (wrap64 (a0_0 - a1_0))] ?_; (with_reducible refine (laws_wmAbs.calls (wrap64 (a0_0 - a1_0)) t195 _ A3.out).mono ?_); rintro e w' ⟨rfl, ⟨nd, rfl⟩⟩; refine ⟨_, rfl, ?_⟩) | ((with_reducible refine gate_callee (f := 9) rfl ?_); refine zgl (N := some 18) Try.func9 #[.int .i64 (wrap64 (a0_1 - a1_1))] ?_; (with_reducible refine (laws_wmAbs.calls (wrap64 (a0_1 - a1_1)) t196 _ A4.out).mono ?_); rintro e w' ⟨rfl, ⟨nd, rfl⟩⟩; refine ⟨_, rfl, ?_⟩))
  go_ret
  exact ⟨ze, zs2 HB GE193 GE194⟩
 rw [if_neg c5] at H
 have c5b0 : decide (t196 < t195) = false := decide_eq_false c5
 clear c5
 obtain rfl := Option.some.inj H
 go_enter Try.func8, Try.ntmps8
 go_wp2_with (first | ((with_reducible refine gate_dst (N := 2) rfl ?_); refine zbx 2 #[.int .i64 a0_0, .int .i64 a0_1] 24 ?_; intro gb193 hg w11 hbox hb; have BK193 := zA hbox; have GW193 := zgs hg (zs0 HB); have GE193 := zgs hg (zs0 HB); replace HB := zE (zs0 HB) hb; clear hb hbox hg) | ((with_reducible refine gate_dst (N := 3) rfl ?_); refine zbx 3 #[.int .i64 a1_0, .int .i64 a1_1] 24 ?_; intro gb194 hg w12 hbox hb; have BK194 := zA hbox; have GW194 := zgs hg (zs1 HB GE193); have GE194 := zgs hg (zs1 HB GE193); have NB193_194 := zne hg BK193; have NB194_193 := znf hg BK193; replace BK193 := zb BK193 hb; replace HB := zE (zs1 HB GE193) hb; clear hb hbox hg; have hnb13 := NB193_194.out; have hnc13 := NB194_193.out; obtain ⟨hcz14_0, hcz14_1⟩ := zd2 BK193; obtain ⟨hfz14_0, hfz14_1⟩ := zn2 BK193; obtain ⟨hcz15_0, hcz15_1⟩ := zd2 BK194; obtain ⟨hfz15_0, hfz15_1⟩ := zn2 BK194) | ((with_reducible refine gate_callee (f := 9) rfl ?_); refine zgl (N := some 12) Try.func9 #[.int .i64 (wrap64 (a0_0 - a1_0))] ?_; (with_reducible refine (laws_wmAbs.calls (wrap64 (a0_0 - a1_0)) t195 _ A3.out).mono ?_); rintro e w' ⟨rfl, ⟨nd, rfl⟩⟩; refine ⟨_, rfl, ?_⟩) | ((with_reducible refine gate_callee (f := 9) rfl ?_); refine zgl (N := some 18) Try.func9 #[.int .i64 (wrap64 (a0_1 - a1_1))] ?_; (with_reducible refine (laws_wmAbs.calls (wrap64 (a0_1 - a1_1)) t196 _ A4.out).mono ?_); rintro e w' ⟨rfl, ⟨nd, rfl⟩⟩; refine ⟨_, rfl, ?_⟩))
 go_ret
 exact ⟨ze, zs2 HB GE193 GE194⟩
end Go.Proofs.Ytaeichaofhcheaa.QFnSkyLegs
