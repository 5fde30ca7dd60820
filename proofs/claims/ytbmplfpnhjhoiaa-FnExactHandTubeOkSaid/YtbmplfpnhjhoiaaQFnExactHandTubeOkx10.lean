/- The walk of what the law FnExactHandTubeOk reaches: laid by a program of this session (ownprint.py). -/
import Derived.Test.YtbmplfpnhjhoiaaQFnExactHandTubeOkx0
import Derived.Test.YtbmplfpnhjhoiaaQFnExactHandTubeOkx7
import Derived.Test.YtbmplfpnhjhoiaaQFnExactHandTubeOkx9
namespace Go.Proofs.Ytbmplfpnhjhoiaa.QFnExactHandTubeOk
open Go.RowKit Go.Proofs.YtbmplfpnhjhoiaaW.PrintWords Go.Proofs.YtbmplfpnhjhoiaaW.PrintLast Go.Proofs.YtbmplfpnhjhoiaaW.PrintMore Go.Proofs.Ytbmplfpnhjhoiaa.Z
attribute [local go_sem] max2_int min2_int max_two min_two max_three min_three max_four min_four zdn   -- for this text's walks alone
set_option linter.unusedVariables false
set_option linter.unusedSimpArgs false
def impl_handBox.f (a0_0 : Int) (a0_1 : Int) (a0_2 : Int) (a0_3 : Int) (a0_4 : Int) (a0_5 : Int) : Option (Bool) := (impl_within.f a0_0 0 15).bind fun t181 => (if t181 = true then ((impl_within.f a0_1 0 15).bind fun t182 => (if t182 = true then (if 0 ≤ a0_2 then (if a0_2 ≤ a0_3 then (if a0_3 ≤ 6 then (if 0 ≤ a0_4 then (if a0_4 ≤ a0_5 then (some (decide (a0_5 ≤ 10000))) else (some false)) else (some false)) else (some false)) else (some false)) else (some false)) else (some false))) else (some false))
set_option maxHeartbeats 8000000 in
set_option maxRecDepth 100000 in
theorem impl_handBox.calls (a0_0 : Int) (a0_1 : Int) (a0_2 : Int) (a0_3 : Int) (a0_4 : Int) (a0_5 : Int) (r : Bool) (w : World) (h : impl_handBox.f a0_0 a0_1 a0_2 a0_3 a0_4 a0_5 = some r) :
 Calls Try.prog 92 #[.agg #[.int .i64 a0_0, .int .i64 a0_1, .int .i64 a0_2, .int .i64 a0_3, .int .i64 a0_4, .int .i64 a0_5]] w fun e w' => e = .returned (.bool r) ∧ Below w.heap.size w w' := by
 have hu41 := Try.underlying41
 have HB := zA (Below.refl w.heap.size w)
 have H : ((impl_within.f a0_0 0 15).bind fun t181 => (if t181 = true then ((impl_within.f a0_1 0 15).bind fun t182 => (if t182 = true then (if 0 ≤ a0_2 then (if a0_2 ≤ a0_3 then (if a0_3 ≤ 6 then (if 0 ≤ a0_4 then (if a0_4 ≤ a0_5 then (some (decide (a0_5 ≤ 10000))) else (some false)) else (some false)) else (some false)) else (some false)) else (some false)) else (some false))) else (some false))) = some r := h
 clear h
 replace H := zbd H; obtain ⟨t181, A2, H⟩ := H
 by_cases c3 : t181 = true
 rotate_left
 ·replace c3 := Bool.eq_false_iff.mpr c3
  subst c3
  have H1 : (some false) = some r := by rw [if_neg (show ¬ (false = true) by decide)] at H; exact H
  clear H
  have H := H1
  clear H1
  obtain rfl := Option.some.inj H
  go_enter Try.func92, Try.ntmps92
  go_wp2_with (first | ((with_reducible refine gate_dst (N := 1) rfl ?_); refine zbx 1 #[.int .i64 a0_0, .int .i64 a0_1, .int .i64 a0_2, .int .i64 a0_3, .int .i64 a0_4, .int .i64 a0_5] 41 ?_; intro gb180 hg w25 hbox hb; have BK180 := zA hbox; have GW180 := zgs hg (zs0 HB); have GE180 := zgs hg (zs0 HB); replace HB := zE (zs0 HB) hb; clear hb hbox hg; obtain ⟨hcz26_0, hcz26_1, hcz26_2, hcz26_3, hcz26_4, hcz26_5⟩ := zd6 BK180; obtain ⟨hfz26_0, hfz26_1, hfz26_2, hfz26_3, hfz26_4, hfz26_5⟩ := zn6 BK180) | ((with_reducible refine gate_callee (f := 93) rfl ?_); refine zgl (N := some 5) Try.func93 #[.int .i64 a0_0, .int .i64 0, .int .i64 15] ?_; (with_reducible refine (impl_within.calls a0_0 0 15 false _ A2.out).mono ?_); rintro e w' ⟨rfl, ⟨nd, rfl⟩⟩; refine ⟨_, rfl, ?_⟩))
  go_ret
  exact ⟨ze, zs1 HB GE180⟩
 subst c3
 have H1 : ((impl_within.f a0_1 0 15).bind fun t182 => (if t182 = true then (if 0 ≤ a0_2 then (if a0_2 ≤ a0_3 then (if a0_3 ≤ 6 then (if 0 ≤ a0_4 then (if a0_4 ≤ a0_5 then (some (decide (a0_5 ≤ 10000))) else (some false)) else (some false)) else (some false)) else (some false)) else (some false)) else (some false))) = some r := by rw [if_pos rfl] at H; exact H
 clear H
 have H := H1
 clear H1
 replace H := zbd H; obtain ⟨t182, A4, H⟩ := H
 by_cases c5 : t182 = true
 rotate_left
 ·replace c5 := Bool.eq_false_iff.mpr c5
  subst c5
  have H1 : (some false) = some r := by rw [if_neg (show ¬ (false = true) by decide)] at H; exact H
  clear H
  have H := H1
  clear H1
  obtain rfl := Option.some.inj H
  go_enter Try.func92, Try.ntmps92
  go_wp2_with (first | ((with_reducible refine gate_dst (N := 1) rfl ?_); refine zbx 1 #[.int .i64 a0_0, .int .i64 a0_1, .int .i64 a0_2, .int .i64 a0_3, .int .i64 a0_4, .int .i64 a0_5] 41 ?_; intro gb180 hg w23 hbox hb; have BK180 := zA hbox; have GW180 := zgs hg (zs0 HB); have GE180 := zgs hg (zs0 HB); replace HB := zE (zs0 HB) hb; clear hb hbox hg; obtain ⟨hcz24_0, hcz24_1, hcz24_2, hcz24_3, hcz24_4, hcz24_5⟩ := zd6 BK180; obtain ⟨hfz24_0, hfz24_1, hfz24_2, hfz24_3, hfz24_4, hfz24_5⟩ := zn6 BK180) | ((with_reducible refine gate_callee (f := 93) rfl ?_); refine zgl (N := some 5) Try.func93 #[.int .i64 a0_0, .int .i64 0, .int .i64 15] ?_; (with_reducible refine (impl_within.calls a0_0 0 15 true _ A2.out).mono ?_); rintro e w' ⟨rfl, ⟨nd, rfl⟩⟩; refine ⟨_, rfl, ?_⟩) | (go_at_call 93; (with_reducible refine (impl_within.calls a0_1 0 15 false _ A4.out).mono ?_); rintro e w' ⟨rfl, ⟨nd, rfl⟩⟩))
  go_ret
  exact ⟨ze, zs1 HB GE180⟩
 subst c5
 have H1 : (if 0 ≤ a0_2 then (if a0_2 ≤ a0_3 then (if a0_3 ≤ 6 then (if 0 ≤ a0_4 then (if a0_4 ≤ a0_5 then (some (decide (a0_5 ≤ 10000))) else (some false)) else (some false)) else (some false)) else (some false)) else (some false)) = some r := by rw [if_pos rfl] at H; exact H
 clear H
 have H := H1
 clear H1
 by_cases c6 : 0 ≤ a0_2
 rotate_left
 ·rw [if_neg c6] at H
  have c6b0 : decide (0 ≤ a0_2) = false := decide_eq_false c6
  clear c6
  obtain rfl := Option.some.inj H
  go_enter Try.func92, Try.ntmps92
  go_wp2_with (first | ((with_reducible refine gate_dst (N := 1) rfl ?_); refine zbx 1 #[.int .i64 a0_0, .int .i64 a0_1, .int .i64 a0_2, .int .i64 a0_3, .int .i64 a0_4, .int .i64 a0_5] 41 ?_; intro gb180 hg w21 hbox hb; have BK180 := zA hbox; have GW180 := zgs hg (zs0 HB); have GE180 := zgs hg (zs0 HB); replace HB := zE (zs0 HB) hb; clear hb hbox hg; obtain ⟨hcz22_0, hcz22_1, hcz22_2, hcz22_3, hcz22_4, hcz22_5⟩ := zd6 BK180; obtain ⟨hfz22_0, hfz22_1, hfz22_2, hfz22_3, hfz22_4, hfz22_5⟩ := zn6 BK180) | ((with_reducible refine gate_callee (f := 93) rfl ?_); refine zgl (N := some 5) Try.func93 #[.int .i64 a0_0, .int .i64 0, .int .i64 15] ?_; (with_reducible refine (impl_within.calls a0_0 0 15 true _ A2.out).mono ?_); rintro e w' ⟨rfl, ⟨nd, rfl⟩⟩; refine ⟨_, rfl, ?_⟩) | (go_at_call 93; (with_reducible refine (impl_within.calls a0_1 0 15 true _ A4.out).mono ?_); rintro e w' ⟨rfl, ⟨nd, rfl⟩⟩))
  go_ret
  exact ⟨ze, zs1 HB GE180⟩
 rw [if_pos c6] at H
 have c6b0 : decide (0 ≤ a0_2) = true := decide_eq_true c6
 clear c6
 by_cases c7 : a0_2 ≤ a0_3
 rotate_left
 ·rw [if_neg c7] at H
  have c7b0 : decide (a0_2 ≤ a0_3) = false := decide_eq_false c7
  clear c7
  obtain rfl := Option.some.inj H
  go_enter Try.func92, Try.ntmps92
  go_wp2_with (first | ((with_reducible refine gate_dst (N := 1) rfl ?_); refine zbx 1 #[.int .i64 a0_0, .int .i64 a0_1, .int .i64 a0_2, .int .i64 a0_3, .int .i64 a0_4, .int .i64 a0_5] 41 ?_; intro gb180 hg w19 hbox hb; have BK180 := zA hbox; have GW180 := zgs hg (zs0 HB); have GE180 := zgs hg (zs0 HB); replace HB := zE (zs0 HB) hb; clear hb hbox hg; obtain ⟨hcz20_0, hcz20_1, hcz20_2, hcz20_3, hcz20_4, hcz20_5⟩ := zd6 BK180; obtain ⟨hfz20_0, hfz20_1, hfz20_2, hfz20_3, hfz20_4, hfz20_5⟩ := zn6 BK180) | ((with_reducible refine gate_callee (f := 93) rfl ?_); refine zgl (N := some 5) Try.func93 #[.int .i64 a0_0, .int .i64 0, .int .i64 15] ?_; (with_reducible refine (impl_within.calls a0_0 0 15 true _ A2.out).mono ?_); rintro e w' ⟨rfl, ⟨nd, rfl⟩⟩; refine ⟨_, rfl, ?_⟩) | (go_at_call 93; (with_reducible refine (impl_within.calls a0_1 0 15 true _ A4.out).mono ?_); rintro e w' ⟨rfl, ⟨nd, rfl⟩⟩))
  go_ret
  exact ⟨ze, zs1 HB GE180⟩
 rw [if_pos c7] at H
 have c7b0 : decide (a0_2 ≤ a0_3) = true := decide_eq_true c7
 clear c7
 by_cases c8 : a0_3 ≤ 6
 rotate_left
 ·rw [if_neg c8] at H
  have c8b0 : decide (a0_3 ≤ 6) = false := decide_eq_false c8
  clear c8
  obtain rfl := Option.some.inj H
  go_enter Try.func92, Try.ntmps92
  go_wp2_with (first | ((with_reducible refine gate_dst (N := 1) rfl ?_); refine zbx 1 #[.int .i64 a0_0, .int .i64 a0_1, .int .i64 a0_2, .int .i64 a0_3, .int .i64 a0_4, .int .i64 a0_5] 41 ?_; intro gb180 hg w17 hbox hb; have BK180 := zA hbox; have GW180 := zgs hg (zs0 HB); have GE180 := zgs hg (zs0 HB); replace HB := zE (zs0 HB) hb; clear hb hbox hg; obtain ⟨hcz18_0, hcz18_1, hcz18_2, hcz18_3, hcz18_4, hcz18_5⟩ := zd6 BK180; obtain ⟨hfz18_0, hfz18_1, hfz18_2, hfz18_3, hfz18_4, hfz18_5⟩ := zn6 BK180) | ((with_reducible refine gate_callee (f := 93) rfl ?_); refine zgl (N := some 5) Try.func93 #[.int .i64 a0_0, .int .i64 0, .int .i64 15] ?_; (with_reducible refine (impl_within.calls a0_0 0 15 true _ A2.out).mono ?_); rintro e w' ⟨rfl, ⟨nd, rfl⟩⟩; refine ⟨_, rfl, ?_⟩) | (go_at_call 93; (with_reducible refine (impl_within.calls a0_1 0 15 true _ A4.out).mono ?_); rintro e w' ⟨rfl, ⟨nd, rfl⟩⟩))
  go_ret
  exact ⟨ze, zs1 HB GE180⟩
 rw [if_pos c8] at H
 have c8b0 : decide (a0_3 ≤ 6) = true := decide_eq_true c8
 clear c8
 by_cases c9 : 0 ≤ a0_4
 rotate_left
 ·rw [if_neg c9] at H
  have c9b0 : decide (0 ≤ a0_4) = false := decide_eq_false c9
  clear c9
  obtain rfl := Option.some.inj H
  go_enter Try.func92, Try.ntmps92
  go_wp2_with (first | ((with_reducible refine gate_dst (N := 1) rfl ?_); refine zbx 1 #[.int .i64 a0_0, .int .i64 a0_1, .int .i64 a0_2, .int .i64 a0_3, .int .i64 a0_4, .int .i64 a0_5] 41 ?_; intro gb180 hg w15 hbox hb; have BK180 := zA hbox; have GW180 := zgs hg (zs0 HB); have GE180 := zgs hg (zs0 HB); replace HB := zE (zs0 HB) hb; clear hb hbox hg; obtain ⟨hcz16_0, hcz16_1, hcz16_2, hcz16_3, hcz16_4, hcz16_5⟩ := zd6 BK180; obtain ⟨hfz16_0, hfz16_1, hfz16_2, hfz16_3, hfz16_4, hfz16_5⟩ := zn6 BK180) | ((with_reducible refine gate_callee (f := 93) rfl ?_); refine zgl (N := some 5) Try.func93 #[.int .i64 a0_0, .int .i64 0, .int .i64 15] ?_; (with_reducible refine (impl_within.calls a0_0 0 15 true _ A2.out).mono ?_); rintro e w' ⟨rfl, ⟨nd, rfl⟩⟩; refine ⟨_, rfl, ?_⟩) | (go_at_call 93; (with_reducible refine (impl_within.calls a0_1 0 15 true _ A4.out).mono ?_); rintro e w' ⟨rfl, ⟨nd, rfl⟩⟩))
  go_ret
  exact ⟨ze, zs1 HB GE180⟩
 rw [if_pos c9] at H
 have c9b0 : decide (0 ≤ a0_4) = true := decide_eq_true c9
 clear c9
 by_cases c10 : a0_4 ≤ a0_5
 ·rw [if_pos c10] at H
  have c10b0 : decide (a0_4 ≤ a0_5) = true := decide_eq_true c10
  clear c10
  obtain rfl := Option.some.inj H
  go_enter Try.func92, Try.ntmps92
  go_wp2_with (first | ((with_reducible refine gate_dst (N := 1) rfl ?_); refine zbx 1 #[.int .i64 a0_0, .int .i64 a0_1, .int .i64 a0_2, .int .i64 a0_3, .int .i64 a0_4, .int .i64 a0_5] 41 ?_; intro gb180 hg w11 hbox hb; have BK180 := zA hbox; have GW180 := zgs hg (zs0 HB); have GE180 := zgs hg (zs0 HB); replace HB := zE (zs0 HB) hb; clear hb hbox hg; obtain ⟨hcz12_0, hcz12_1, hcz12_2, hcz12_3, hcz12_4, hcz12_5⟩ := zd6 BK180; obtain ⟨hfz12_0, hfz12_1, hfz12_2, hfz12_3, hfz12_4, hfz12_5⟩ := zn6 BK180) | ((with_reducible refine gate_callee (f := 93) rfl ?_); refine zgl (N := some 5) Try.func93 #[.int .i64 a0_0, .int .i64 0, .int .i64 15] ?_; (with_reducible refine (impl_within.calls a0_0 0 15 true _ A2.out).mono ?_); rintro e w' ⟨rfl, ⟨nd, rfl⟩⟩; refine ⟨_, rfl, ?_⟩) | (go_at_call 93; (with_reducible refine (impl_within.calls a0_1 0 15 true _ A4.out).mono ?_); rintro e w' ⟨rfl, ⟨nd, rfl⟩⟩))
  go_ret
  exact ⟨ze, zs1 HB GE180⟩
 rw [if_neg c10] at H
 have c10b0 : decide (a0_4 ≤ a0_5) = false := decide_eq_false c10
 clear c10
 obtain rfl := Option.some.inj H
 go_enter Try.func92, Try.ntmps92
 go_wp2_with (first | ((with_reducible refine gate_dst (N := 1) rfl ?_); refine zbx 1 #[.int .i64 a0_0, .int .i64 a0_1, .int .i64 a0_2, .int .i64 a0_3, .int .i64 a0_4, .int .i64 a0_5] 41 ?_; intro gb180 hg w13 hbox hb; have BK180 := zA hbox; have GW180 := zgs hg (zs0 HB); have GE180 := zgs hg (zs0 HB); replace HB := zE (zs0 HB) hb; clear hb hbox hg; obtain ⟨hcz14_0, hcz14_1, hcz14_2, hcz14_3, hcz14_4, hcz14_5⟩ := zd6 BK180; obtain ⟨hfz14_0, hfz14_1, hfz14_2, hfz14_3, hfz14_4, hfz14_5⟩ := zn6 BK180) | ((with_reducible refine gate_callee (f := 93) rfl ?_); refine zgl (N := some 5) Try.func93 #[.int .i64 a0_0, .int .i64 0, .int .i64 15] ?_; (with_reducible refine (impl_within.calls a0_0 0 15 true _ A2.out).mono ?_); rintro e w' ⟨rfl, ⟨nd, rfl⟩⟩; refine ⟨_, rfl, ?_⟩) | (go_at_call 93; (with_reducible refine (impl_within.calls a0_1 0 15 true _ A4.out).mono ?_); rintro e w' ⟨rfl, ⟨nd, rfl⟩⟩))
 go_ret
 exact ⟨ze, zs1 HB GE180⟩
def impl_HandZone_over.f (a0_0 : ByteArray) (a0_1 : Int) (a0_2 : Int) (a0_3 : Int) (a0_4 : Int) (a1 : Int) (a2 : Int) : Option (Bool) := (impl_within.f a1 a0_1 a0_3).bind fun t184 => (if t184 = true then ((impl_within.f a2 a0_2 a0_4).bind fun t185 => (some t185)) else (some false))
set_option maxHeartbeats 8000000 in
set_option maxRecDepth 100000 in
theorem impl_HandZone_over.calls (a0_0 : ByteArray) (a0_1 : Int) (a0_2 : Int) (a0_3 : Int) (a0_4 : Int) (a1 : Int) (a2 : Int) (r : Bool) (w : World) (h : impl_HandZone_over.f a0_0 a0_1 a0_2 a0_3 a0_4 a1 a2 = some r) :
 Calls Try.prog 83 #[.agg #[.string a0_0, .int .i64 a0_1, .int .i64 a0_2, .int .i64 a0_3, .int .i64 a0_4], .int .i64 a1, .int .i64 a2] w fun e w' => e = .returned (.bool r) ∧ Below w.heap.size w w' := by
 have hu55 := Try.underlying55
 have HB := zA (Below.refl w.heap.size w)
 have H : ((impl_within.f a1 a0_1 a0_3).bind fun t184 => (if t184 = true then ((impl_within.f a2 a0_2 a0_4).bind fun t185 => (some t185)) else (some false))) = some r := h
 clear h
 replace H := zbd H; obtain ⟨t184, A4, H⟩ := H
 by_cases c5 : t184 = true
 rotate_left
 ·replace c5 := Bool.eq_false_iff.mpr c5
  subst c5
  have H1 : (some false) = some r := by rw [if_neg (show ¬ (false = true) by decide)] at H; exact H
  clear H
  have H := H1
  clear H1
  obtain rfl := Option.some.inj H
  go_enter Try.func83, Try.ntmps83
  go_wp2_with (first | ((with_reducible refine gate_dst (N := 3) rfl ?_); refine zbx 3 #[.string a0_0, .int .i64 a0_1, .int .i64 a0_2, .int .i64 a0_3, .int .i64 a0_4] 55 ?_; intro gb183 hg w9 hbox hb; have BK183 := zA hbox; have GW183 := zgs hg (zs0 HB); have GE183 := zgs hg (zs0 HB); replace HB := zE (zs0 HB) hb; clear hb hbox hg; obtain ⟨hcz10_0, hcz10_1, hcz10_2, hcz10_3, hcz10_4⟩ := zd5 BK183; obtain ⟨hfz10_0, hfz10_1, hfz10_2, hfz10_3, hfz10_4⟩ := zn5 BK183) | ((with_reducible refine gate_callee (f := 93) rfl ?_); refine zgl (N := some 12) Try.func93 #[.int .i64 a1, .int .i64 a0_1, .int .i64 a0_3] ?_; (with_reducible refine (impl_within.calls a1 a0_1 a0_3 false _ A4.out).mono ?_); rintro e w' ⟨rfl, ⟨nd, rfl⟩⟩; refine ⟨_, rfl, ?_⟩))
  go_ret
  exact ⟨ze, zs1 HB GE183⟩
 subst c5
 have H1 : ((impl_within.f a2 a0_2 a0_4).bind fun t185 => (some t185)) = some r := by rw [if_pos rfl] at H; exact H
 clear H
 have H := H1
 clear H1
 replace H := zbd H; obtain ⟨t185, A6, H⟩ := H
 obtain rfl := Option.some.inj H
 go_enter Try.func83, Try.ntmps83
 go_wp2_with (first | ((with_reducible refine gate_dst (N := 3) rfl ?_); refine zbx 3 #[.string a0_0, .int .i64 a0_1, .int .i64 a0_2, .int .i64 a0_3, .int .i64 a0_4] 55 ?_; intro gb183 hg w7 hbox hb; have BK183 := zA hbox; have GW183 := zgs hg (zs0 HB); have GE183 := zgs hg (zs0 HB); replace HB := zE (zs0 HB) hb; clear hb hbox hg; obtain ⟨hcz8_0, hcz8_1, hcz8_2, hcz8_3, hcz8_4⟩ := zd5 BK183; obtain ⟨hfz8_0, hfz8_1, hfz8_2, hfz8_3, hfz8_4⟩ := zn5 BK183) | ((with_reducible refine gate_callee (f := 93) rfl ?_); refine zgl (N := some 12) Try.func93 #[.int .i64 a1, .int .i64 a0_1, .int .i64 a0_3] ?_; (with_reducible refine (impl_within.calls a1 a0_1 a0_3 true _ A4.out).mono ?_); rintro e w' ⟨rfl, ⟨nd, rfl⟩⟩; refine ⟨_, rfl, ?_⟩) | (go_at_call 93; (with_reducible refine (impl_within.calls a2 a0_2 a0_4 t185 _ A6.out).mono ?_); rintro e w' ⟨rfl, ⟨nd, rfl⟩⟩))
 go_ret
 exact ⟨ze, zs1 HB GE183⟩
set_option maxHeartbeats 8000000 in
set_option maxRecDepth 100000 in
/-- The function value: is the zone over the box whose place it holds? -/
theorem tubeOk_1.calls (z0 : ByteArray) (z1 z2 z3 z4 : Int) (a1_0 a1_1 a1_2 a1_3 a1_4 a1_5 : Int) (gb : Nat) (r : Bool) (w : World) (hbk : w.heap[gb]? = some (.cells #[.int .i64 a1_0, .int .i64 a1_1, .int .i64 a1_2, .int .i64 a1_3, .int .i64 a1_4, .int .i64 a1_5] 41 (0, 0))) (h : impl_HandZone_over.f z0 z1 z2 z3 z4 a1_0 a1_1 = some r) :
 Calls Try.prog 141 #[.agg #[.string z0, .int .i64 z1, .int .i64 z2, .int .i64 z3, .int .i64 z4], .pointer (some ⟨gb, 0, none⟩)] w fun e w' => e = .returned (.bool r) ∧ Below w.heap.size w w' := by
 have hu55 := Try.underlying55
 have hu41 := Try.underlying41
 have BKb := zA hbk
 have A6 := zA h
 clear hbk h
 have HB := zA (Below.refl w.heap.size w)
 go_enter Try.func141, Try.ntmps141
 go_wp2_with (first | ((with_reducible refine gate_dst (N := 2) rfl ?_); refine zbx 2 #[.string z0, .int .i64 z1, .int .i64 z2, .int .i64 z3, .int .i64 z4] 55 ?_; intro gbz hg w1 hbox hb; have BKz := zA hbox; have GEz := zgs hg (zs0 HB); replace BKb := zb BKb hb; replace HB := zE (zs0 HB) hb; clear hb hbox hg; obtain ⟨hcz1_0, hcz1_1, hcz1_2, hcz1_3, hcz1_4⟩ := zd5 BKz; obtain ⟨hcz2_0, hcz2_1, hcz2_2, hcz2_3, hcz2_4, hcz2_5⟩ := zd6 BKb) | ((with_reducible refine gate_callee (f := 83) rfl ?_); refine zgl (N := some 9) Try.func83 #[.agg #[.string z0, .int .i64 z1, .int .i64 z2, .int .i64 z3, .int .i64 z4], .int .i64 a1_0, .int .i64 a1_1] ?_; (with_reducible refine (impl_HandZone_over.calls z0 z1 z2 z3 z4 a1_0 a1_1 r _ A6.out).mono ?_); rintro e w2 ⟨rfl, hb⟩; refine ⟨_, rfl, ?_⟩; replace HB := zE (zs1 HB GEz) hb; clear hb))
 go_ret
 exact ⟨ze, zs1 HB GEz⟩
def impl_HandZone_162.l0 : Nat → List (S55) → Int → Int → Int → Int → Option (Int)
 | 0, _, _, _, _, _ => none
 | k + 1, x0, x1, x2, x7, x8 => if x8 < x7 then (if 0 ≤ x8 then (if x8 < (x0.length : Int) then ((impl_HandZone_over.f ((rd_T55 x0 x8).f0) ((rd_T55 x0 x8).f1) ((rd_T55 x0 x8).f2) ((rd_T55 x0 x8).f3) ((rd_T55 x0 x8).f4) x1 x2).bind fun t187 => (if t187 = true then (some x8) else (impl_HandZone_162.l0 k x0 x1 x2 x7 (wrap64 (x8 + 1))))) else (none)) else (none)) else (some (-1))
def impl_HandZone_162.f (k : Nat) (l0 : List (S55)) (a1_0 a1_1 : Int) : Option (Int) := impl_HandZone_162.l0 k l0 a1_0 a1_1 (l0.length : Int) 0
set_option maxHeartbeats 8000000 in
set_option maxRecDepth 100000 in
theorem impl_HandZone_162.calls (k : Nat) (A0 : Option Addr) (c0 : Nat) (l0 : List (S55)) (a1_0 a1_1 a1_2 a1_3 a1_4 a1_5 : Int) (gb : Nat) (r : Int) (w : World) (hr0 : Kd.C k55 w A0 l0.length l0) (hc0 : l0.length ≤ c0) (hbk : w.heap[gb]? = some (.cells #[.int .i64 a1_0, .int .i64 a1_1, .int .i64 a1_2, .int .i64 a1_3, .int .i64 a1_4, .int .i64 a1_5] 41 (0, 0))) (h : impl_HandZone_162.f k l0 a1_0 a1_1 = some r) :
 Calls Try.prog 162 #[.slice A0 l0.length c0, .func (.func 141) #[] #[.pointer (some ⟨gb, 0, none⟩)]] w fun e w' => e = .returned (.int .i64 r) ∧ Below w.heap.size w w' := by
 have hu55 := Try.underlying55
 have HR0 := zA hr0
 have HC0 := zA hc0
 have HBK := zA hbk
 clear hr0 hc0 hbk
 have HB := zA (Below.refl w.heap.size w)
 have H : (impl_HandZone_162.l0 k l0 a1_0 a1_1 (l0.length : Int) 0) = some r := h
 clear h
 have H' := zA H
 clear H
 go_enter Try.func162, Try.ntmps162
 go_wp2
 go_loopg [8] k (fun kq v8 w' => ∃ (x8_1 : Int), v8 = .int .i64 x8_1 ∧ Aside0 (impl_HandZone_162.l0 kq l0 a1_0 a1_1 (l0.length : Int) x8_1 = some r) ∧ Aside0 (kq ≤ k) ∧ Aside0 (Below w.heap.size w w'))
 case atStart => exact ⟨(0), zi, H', ⟨Nat.le_refl _⟩, ⟨zs0 HB⟩⟩
 case round =>
  clear H'
  try clear c1
  try clear p2
  obtain ⟨x8_1, rfl, HA, HK1, HB⟩ := hrel
  cases gk with
  | zero => exact absurd HA.out (by simp [impl_HandZone_162.l0])
  | succ k1 =>
   have H := HA.out
   clear HA
   simp only [impl_HandZone_162.l0] at H
   by_cases c3 : x8_1 < (l0.length : Int)
   rotate_left
   ·rw [if_neg c3] at H
    have c3b0 : decide (x8_1 < (l0.length : Int)) = false := decide_eq_false c3
    clear c3
    obtain rfl := Option.some.inj H
    go_wp2
    go_ret
    exact ⟨ze, zs0 HB⟩
   rw [if_pos c3] at H
   have c3b0 : decide (x8_1 < (l0.length : Int)) = true := decide_eq_true c3
   clear c3
   by_cases c4 : 0 ≤ x8_1
   rotate_left
   ·rw [if_neg c4] at H
    exact absurd H (by simp)
   rw [if_pos c4] at H
   have c4b0 : decide (0 ≤ x8_1) = true := decide_eq_true c4
   clear c4
   by_cases c5 : x8_1 < (l0.length : Int)
   rotate_left
   ·rw [if_neg c5] at H
    exact absurd H (by simp)
   rw [if_pos c5] at H
   have c5b0 : decide (x8_1 < (l0.length : Int)) = true := decide_eq_true c5
   clear c5
   replace H := zbd H; obtain ⟨t187, A6, H⟩ := H
   by_cases c7 : t187 = true
   ·subst c7
    have H1 : (some x8_1) = some r := by rw [if_pos rfl] at H; exact H
    clear H
    have H := H1
    clear H1
    obtain rfl := Option.some.inj H
    have p186 : 0 ≤ (x8_1 : Int) := za
    have q186 : x8_1 < (l0.length : Int) := za
    obtain ⟨ad186, e186, hx186_0, hx186_1, hx186_2, hx186_3, hx186_4⟩ := at_T55 HR0.out x8_1 p186 q186
    cases e186
    replace hx186_0 := zx HB hx186_0
    replace hx186_1 := zx HB hx186_1
    replace hx186_2 := zx HB hx186_2
    replace hx186_3 := zx HB hx186_3
    replace hx186_4 := zx HB hx186_4
    replace p186 := eq_true p186
    replace q186 := eq_true q186
    go_wp2_with (first | (go_at_call 141; (refine (tubeOk_1.calls ((rd_T55 l0 x8_1).f0) ((rd_T55 l0 x8_1).f1) ((rd_T55 l0 x8_1).f2) ((rd_T55 l0 x8_1).f3) ((rd_T55 l0 x8_1).f4) a1_0 a1_1 a1_2 a1_3 a1_4 a1_5 gb true _ (zb HBK HB.out).out A6.out).mono ?_); rintro e w8 ⟨rfl, hb⟩; replace HB := zE (zs0 HB) hb; (try clear hb); (try clear hb2); (try clear hk); (try clear hi)))
    go_ret
    exact ⟨ze, zs0 HB⟩
   replace c7 := Bool.eq_false_iff.mpr c7
   subst c7
   have H1 : (impl_HandZone_162.l0 k1 l0 a1_0 a1_1 (l0.length : Int) (wrap64 (x8_1 + 1))) = some r := by rw [if_neg (show ¬ (false = true) by decide)] at H; exact H
   clear H
   have H := H1
   clear H1
   have H' := zA H
   clear H
   have p186 : 0 ≤ (x8_1 : Int) := za
   have q186 : x8_1 < (l0.length : Int) := za
   obtain ⟨ad186, e186, hx186_0, hx186_1, hx186_2, hx186_3, hx186_4⟩ := at_T55 HR0.out x8_1 p186 q186
   cases e186
   replace hx186_0 := zx HB hx186_0
   replace hx186_1 := zx HB hx186_1
   replace hx186_2 := zx HB hx186_2
   replace hx186_3 := zx HB hx186_3
   replace hx186_4 := zx HB hx186_4
   replace p186 := eq_true p186
   replace q186 := eq_true q186
   go_wp2_with (first | (go_at_call 141; (refine (tubeOk_1.calls ((rd_T55 l0 x8_1).f0) ((rd_T55 l0 x8_1).f1) ((rd_T55 l0 x8_1).f2) ((rd_T55 l0 x8_1).f3) ((rd_T55 l0 x8_1).f4) a1_0 a1_1 a1_2 a1_3 a1_4 a1_5 gb false _ (zb HBK HB.out).out A6.out).mono ?_); rintro e w9 ⟨rfl, hb⟩; replace HB := zE (zs0 HB) hb; (try clear hb); (try clear hb2); (try clear hk); (try clear hi)))
   go_roundg k1
   case measure => have := HK1.out; omega
   case rel => exact ⟨(wrap64 (x8_1 + 1)), zi, H', ⟨by have := HK1.out; omega⟩, ⟨zs0 HB⟩⟩
def impl_HandZone_140.f (k : Nat) (l0 : List (S55)) (a1_0 a1_1 : Int) : Option (Bool) := (impl_HandZone_162.f k l0 a1_0 a1_1).bind fun t188 => (some (decide (t188 ≥ 0)))
set_option maxHeartbeats 8000000 in
set_option maxRecDepth 100000 in
theorem impl_HandZone_140.calls (k : Nat) (A0 : Option Addr) (c0 : Nat) (l0 : List (S55)) (a1_0 a1_1 a1_2 a1_3 a1_4 a1_5 : Int) (gb : Nat) (r : Bool) (w : World) (hr0 : Kd.C k55 w A0 l0.length l0) (hc0 : l0.length ≤ c0) (hbk : w.heap[gb]? = some (.cells #[.int .i64 a1_0, .int .i64 a1_1, .int .i64 a1_2, .int .i64 a1_3, .int .i64 a1_4, .int .i64 a1_5] 41 (0, 0))) (h : impl_HandZone_140.f k l0 a1_0 a1_1 = some r) :
 Calls Try.prog 140 #[.slice A0 l0.length c0, .func (.func 141) #[] #[.pointer (some ⟨gb, 0, none⟩)]] w fun e w' => e = .returned (.bool r) ∧ Below w.heap.size w w' := by
 have HR0 := zA hr0
 have HC0 := zA hc0
 have HBK := zA hbk
 clear hr0 hc0 hbk
 have HB := zA (Below.refl w.heap.size w)
 have H : ((impl_HandZone_162.f k l0 a1_0 a1_1).bind fun t188 => (some (decide (t188 ≥ 0)))) = some r := h
 clear h
 replace H := zbd H; obtain ⟨t188, A3, H⟩ := H
 obtain rfl := Option.some.inj H
 go_enter Try.func140, Try.ntmps140
 go_wp2_with (first | ((with_reducible refine gate_callee (f := 162) rfl ?_); refine zgl (N := some 7) Try.func162 #[.slice A0 l0.length c0, .func (.func 141) #[] #[.pointer (some ⟨gb, 0, none⟩)]] ?_; (with_reducible refine (impl_HandZone_162.calls k _ _ l0 a1_0 a1_1 a1_2 a1_3 a1_4 a1_5 gb t188 _ ?side1 ?side2 HBK.out A3.out).mono ?_); (case side1 => repeat (first | exact HR0.out | (with_reducible refine Kd.C_alloc ?_ _) | (with_reducible refine Kd.C_drewN ?_ _) | (with_reducible refine Kd.C_drew ?_))); (case side2 => exact HC0.out); rintro e w4 ⟨rfl, hb⟩; refine ⟨_, rfl, ?_⟩; replace HB := zE (zs0 HB) hb; (try clear hb); (try clear hb2); (try clear hk); (try clear hi)))
 go_ret
 exact ⟨ze, zs0 HB⟩
def impl_tubeOk.l0 : Nat → List (S55) → List (S41) → Int → Int → Option (Bool)
 | 0, _, _, _, _ => none
 | k + 1, x0, x11, x12, x13 => if x13 < x12 then (if 0 ≤ x13 then (if x13 < (x11.length : Int) then ((impl_handBox.f ((rd_T41 x11 x13).f0) ((rd_T41 x11 x13).f1) ((rd_T41 x11 x13).f2) ((rd_T41 x11 x13).f3) ((rd_T41 x11 x13).f4) ((rd_T41 x11 x13).f5)).bind fun t192 => (if t192 = true then ((impl_HandZone_140.f k x0 ((rd_T41 x11 x13).f0) ((rd_T41 x11 x13).f1)).bind fun t193 => (if t193 = true then (impl_tubeOk.l0 k x0 x11 x12 (wrap64 (x13 + 1))) else (some false))) else (some false))) else (none)) else (none)) else (some true)
def impl_tubeOk.f (k : Nat) (l0 : List (S55)) (l1 : List (S41)) : Option (Bool) := (impl_within.f (l1.length : Int) 1 20).bind fun t189 => (if t189 = true then (impl_tubeOk.l0 k l0 l1 (l1.length : Int) 0) else (some false))
set_option maxHeartbeats 8000000 in
set_option maxRecDepth 100000 in
theorem impl_tubeOk.calls (k : Nat) (A0 : Option Addr) (c0 : Nat) (l0 : List (S55)) (A1 : Option Addr) (c1 : Nat) (l1 : List (S41)) (r : Bool) (w : World) (hr0 : Kd.C k55 w A0 l0.length l0) (hc0 : l0.length ≤ c0) (hr1 : Kd.C k41 w A1 l1.length l1) (hc1 : l1.length ≤ c1) (h : impl_tubeOk.f k l0 l1 = some r) :
 Calls Try.prog 96 #[.slice A0 l0.length c0, .slice A1 l1.length c1] w fun e w' => e = .returned (.bool r) ∧ Below w.heap.size w w' := by
 have hmf : ∀ (fn : Fn) (first cap : Array Value) (w : World), (Instr.makeFunc fn first cap).run Try.prog w = .ok (.func fn first cap) w := fun _ _ _ _ => rfl
 have hu41 := Try.underlying41
 have HR0 := zA hr0
 have HC0 := zA hc0
 clear hr0 hc0
 have HR1 := zA hr1
 have HC1 := zA hc1
 clear hr1 hc1
 have HB := zA (Below.refl w.heap.size w)
 have H : ((impl_within.f (l1.length : Int) 1 20).bind fun t189 => (if t189 = true then (impl_tubeOk.l0 k l0 l1 (l1.length : Int) 0) else (some false))) = some r := h
 clear h
 replace H := zbd H; obtain ⟨t189, A3, H⟩ := H
 by_cases c4 : t189 = true
 rotate_left
 ·replace c4 := Bool.eq_false_iff.mpr c4
  subst c4
  have H1 : (some false) = some r := by rw [if_neg (show ¬ (false = true) by decide)] at H; exact H
  clear H
  have H := H1
  clear H1
  obtain rfl := Option.some.inj H
  go_enter Try.func96, Try.ntmps96
  go_wp2_with (first | ((with_reducible refine gate_callee (f := 93) rfl ?_); refine zgl (N := some 9) Try.func93 #[.int .i64 (l1.length : Int), .int .i64 1, .int .i64 20] ?_; (with_reducible refine (impl_within.calls (l1.length : Int) 1 20 false _ A3.out).mono ?_); rintro e w' ⟨rfl, ⟨nd, rfl⟩⟩; refine ⟨_, rfl, ?_⟩))
  go_ret
  exact ⟨ze, zs0 HB⟩
 subst c4
 have H1 : (impl_tubeOk.l0 k l0 l1 (l1.length : Int) 0) = some r := by rw [if_pos rfl] at H; exact H
 clear H
 have H := H1
 clear H1
 have H' := zA H
 clear H
 go_enter Try.func96, Try.ntmps96
 go_wp2_with (first | ((with_reducible refine gate_callee (f := 93) rfl ?_); refine zgl (N := some 9) Try.func93 #[.int .i64 (l1.length : Int), .int .i64 1, .int .i64 20] ?_; (with_reducible refine (impl_within.calls (l1.length : Int) 1 20 true _ A3.out).mono ?_); rintro e w' ⟨rfl, ⟨nd, rfl⟩⟩; refine ⟨_, rfl, ?_⟩))
 go_loopg [13] k (fun kq v13 w' => ∃ (x13_1 : Int), v13 = .int .i64 x13_1 ∧ Aside0 (impl_tubeOk.l0 kq l0 l1 (l1.length : Int) x13_1 = some r) ∧ Aside0 (kq ≤ k) ∧ Aside0 (Below w.heap.size w w'))
 case atStart => exact ⟨(0), zi, H', ⟨Nat.le_refl _⟩, ⟨zs0 HB⟩⟩
 case round =>
  clear H'
  try clear c1
  try clear p2
  try clear c4
  obtain ⟨x13_1, rfl, HA, HK1, HB⟩ := hrel
  cases gk with
  | zero => exact absurd HA.out (by simp [impl_tubeOk.l0])
  | succ k1 =>
   have H := HA.out
   clear HA
   simp only [impl_tubeOk.l0] at H
   by_cases c5 : x13_1 < (l1.length : Int)
   rotate_left
   ·rw [if_neg c5] at H
    have c5b0 : decide (x13_1 < (l1.length : Int)) = false := decide_eq_false c5
    clear c5
    obtain rfl := Option.some.inj H
    go_wp2
    go_ret
    exact ⟨ze, zs0 HB⟩
   rw [if_pos c5] at H
   have c5b0 : decide (x13_1 < (l1.length : Int)) = true := decide_eq_true c5
   clear c5
   by_cases c6 : 0 ≤ x13_1
   rotate_left
   ·rw [if_neg c6] at H
    exact absurd H (by simp)
   rw [if_pos c6] at H
   have c6b0 : decide (0 ≤ x13_1) = true := decide_eq_true c6
   clear c6
   by_cases c7 : x13_1 < (l1.length : Int)
   rotate_left
   ·rw [if_neg c7] at H
    exact absurd H (by simp)
   rw [if_pos c7] at H
   have c7b0 : decide (x13_1 < (l1.length : Int)) = true := decide_eq_true c7
   clear c7
   replace H := zbd H; obtain ⟨t192, A8, H⟩ := H
   by_cases c9 : t192 = true
   rotate_left
   ·replace c9 := Bool.eq_false_iff.mpr c9
    subst c9
    have H1 : (some false) = some r := by rw [if_neg (show ¬ (false = true) by decide)] at H; exact H
    clear H
    have H := H1
    clear H1
    obtain rfl := Option.some.inj H
    have p190 : 0 ≤ (x13_1 : Int) := za
    have q190 : x13_1 < (l1.length : Int) := za
    obtain ⟨ad190, e190, hx190_0, hx190_1, hx190_2, hx190_3, hx190_4, hx190_5⟩ := at_T41 HR1.out x13_1 p190 q190
    cases e190
    replace hx190_0 := zx HB hx190_0
    replace hx190_1 := zx HB hx190_1
    replace hx190_2 := zx HB hx190_2
    replace hx190_3 := zx HB hx190_3
    replace hx190_4 := zx HB hx190_4
    replace hx190_5 := zx HB hx190_5
    replace p190 := eq_true p190
    replace q190 := eq_true q190
    go_wp2_with (first | ((with_reducible refine gate_dst (N := 6) rfl ?_); refine zbx 6 #[.int .i64 0, .int .i64 0, .int .i64 0, .int .i64 0, .int .i64 0, .int .i64 0] 41 ?_; intro gb191 hg w20 hbox hb; have BK191 := zA hbox; have GW191 := zgs hg (zs0 HB); have GE191 := zgs hg (zs0 HB); replace HB := zE (zs0 HB) hb; clear hb hbox hg; obtain ⟨hcz21_0, hcz21_1, hcz21_2, hcz21_3, hcz21_4, hcz21_5⟩ := zd6 BK191; obtain ⟨hfz21_0, hfz21_1, hfz21_2, hfz21_3, hfz21_4, hfz21_5⟩ := zn6 BK191) | ((with_reducible refine gate_callee (f := 92) rfl ?_); refine zgl (N := some 18) Try.func92 #[.agg #[.int .i64 ((rd_T41 l1 x13_1).f0), .int .i64 ((rd_T41 l1 x13_1).f1), .int .i64 ((rd_T41 l1 x13_1).f2), .int .i64 ((rd_T41 l1 x13_1).f3), .int .i64 ((rd_T41 l1 x13_1).f4), .int .i64 ((rd_T41 l1 x13_1).f5)]] ?_; (with_reducible refine (impl_handBox.calls ((rd_T41 l1 x13_1).f0) ((rd_T41 l1 x13_1).f1) ((rd_T41 l1 x13_1).f2) ((rd_T41 l1 x13_1).f3) ((rd_T41 l1 x13_1).f4) ((rd_T41 l1 x13_1).f5) false _ A8.out).mono ?_); rintro e w22 ⟨rfl, hb⟩; refine ⟨_, rfl, ?_⟩; replace BK191 := zA (blk_below (g := gb191) (o := .cells #[.int .i64 ((rd_T41 l1 x13_1).f0), .int .i64 ((rd_T41 l1 x13_1).f1), .int .i64 ((rd_T41 l1 x13_1).f2), .int .i64 ((rd_T41 l1 x13_1).f3), .int .i64 ((rd_T41 l1 x13_1).f4), .int .i64 ((rd_T41 l1 x13_1).f5)] 41 (0, 0)) (zpb BK191) hb); replace HB := zE (zs1 HB GE191) hb; (try clear hb); (try clear hb2); (try clear hk); (try clear hi)))
    go_ret
    exact ⟨ze, zs1 HB GE191⟩
   subst c9
   have H1 : ((impl_HandZone_140.f k1 l0 ((rd_T41 l1 x13_1).f0) ((rd_T41 l1 x13_1).f1)).bind fun t193 => (if t193 = true then (impl_tubeOk.l0 k1 l0 l1 (l1.length : Int) (wrap64 (x13_1 + 1))) else (some false))) = some r := by rw [if_pos rfl] at H; exact H
   clear H
   have H := H1
   clear H1
   replace H := zbd H; obtain ⟨t193, A10, H⟩ := H
   by_cases c11 : t193 = true
   rotate_left
   ·replace c11 := Bool.eq_false_iff.mpr c11
    subst c11
    have H1 : (some false) = some r := by rw [if_neg (show ¬ (false = true) by decide)] at H; exact H
    clear H
    have H := H1
    clear H1
    obtain rfl := Option.some.inj H
    have p190 : 0 ≤ (x13_1 : Int) := za
    have q190 : x13_1 < (l1.length : Int) := za
    obtain ⟨ad190, e190, hx190_0, hx190_1, hx190_2, hx190_3, hx190_4, hx190_5⟩ := at_T41 HR1.out x13_1 p190 q190
    cases e190
    replace hx190_0 := zx HB hx190_0
    replace hx190_1 := zx HB hx190_1
    replace hx190_2 := zx HB hx190_2
    replace hx190_3 := zx HB hx190_3
    replace hx190_4 := zx HB hx190_4
    replace hx190_5 := zx HB hx190_5
    replace p190 := eq_true p190
    replace q190 := eq_true q190
    go_wp2_with (first | ((with_reducible refine gate_dst (N := 6) rfl ?_); refine zbx 6 #[.int .i64 0, .int .i64 0, .int .i64 0, .int .i64 0, .int .i64 0, .int .i64 0] 41 ?_; intro gb191 hg w16 hbox hb; have BK191 := zA hbox; have GW191 := zgs hg (zs0 HB); have GE191 := zgs hg (zs0 HB); replace HB := zE (zs0 HB) hb; clear hb hbox hg; obtain ⟨hcz17_0, hcz17_1, hcz17_2, hcz17_3, hcz17_4, hcz17_5⟩ := zd6 BK191; obtain ⟨hfz17_0, hfz17_1, hfz17_2, hfz17_3, hfz17_4, hfz17_5⟩ := zn6 BK191) | ((with_reducible refine gate_callee (f := 92) rfl ?_); refine zgl (N := some 18) Try.func92 #[.agg #[.int .i64 ((rd_T41 l1 x13_1).f0), .int .i64 ((rd_T41 l1 x13_1).f1), .int .i64 ((rd_T41 l1 x13_1).f2), .int .i64 ((rd_T41 l1 x13_1).f3), .int .i64 ((rd_T41 l1 x13_1).f4), .int .i64 ((rd_T41 l1 x13_1).f5)]] ?_; (with_reducible refine (impl_handBox.calls ((rd_T41 l1 x13_1).f0) ((rd_T41 l1 x13_1).f1) ((rd_T41 l1 x13_1).f2) ((rd_T41 l1 x13_1).f3) ((rd_T41 l1 x13_1).f4) ((rd_T41 l1 x13_1).f5) true _ A8.out).mono ?_); rintro e w18 ⟨rfl, hb⟩; refine ⟨_, rfl, ?_⟩; replace BK191 := zA (blk_below (g := gb191) (o := .cells #[.int .i64 ((rd_T41 l1 x13_1).f0), .int .i64 ((rd_T41 l1 x13_1).f1), .int .i64 ((rd_T41 l1 x13_1).f2), .int .i64 ((rd_T41 l1 x13_1).f3), .int .i64 ((rd_T41 l1 x13_1).f4), .int .i64 ((rd_T41 l1 x13_1).f5)] 41 (0, 0)) (zpb BK191) hb); replace HB := zE (zs1 HB GE191) hb; (try clear hb); (try clear hb2); (try clear hk); (try clear hi)) | (go_at_call 140; (with_reducible refine (impl_HandZone_140.calls k1 _ _ l0 _ _ _ _ _ _ gb191 false _ ?side1 ?side2 BK191.out A10.out).mono ?_); (case side1 => exact zC HR0 HB); (case side2 => exact HC0.out); rintro e w19 ⟨rfl, hb⟩; replace BK191 := zb BK191 hb; replace HB := zE (zs1 HB GE191) hb; (try clear hb); (try clear hb2); (try clear hk); (try clear hi)))
    go_ret
    exact ⟨ze, zs1 HB GE191⟩
   subst c11
   have H1 : (impl_tubeOk.l0 k1 l0 l1 (l1.length : Int) (wrap64 (x13_1 + 1))) = some r := by rw [if_pos rfl] at H; exact H
   clear H
   have H := H1
   clear H1
   have H' := zA H
   clear H
   have p190 : 0 ≤ (x13_1 : Int) := za
   have q190 : x13_1 < (l1.length : Int) := za
   obtain ⟨ad190, e190, hx190_0, hx190_1, hx190_2, hx190_3, hx190_4, hx190_5⟩ := at_T41 HR1.out x13_1 p190 q190
   cases e190
   replace hx190_0 := zx HB hx190_0
   replace hx190_1 := zx HB hx190_1
   replace hx190_2 := zx HB hx190_2
   replace hx190_3 := zx HB hx190_3
   replace hx190_4 := zx HB hx190_4
   replace hx190_5 := zx HB hx190_5
   replace p190 := eq_true p190
   replace q190 := eq_true q190
   go_wp2_with (first | ((with_reducible refine gate_dst (N := 6) rfl ?_); refine zbx 6 #[.int .i64 0, .int .i64 0, .int .i64 0, .int .i64 0, .int .i64 0, .int .i64 0] 41 ?_; intro gb191 hg w12 hbox hb; have BK191 := zA hbox; have GW191 := zgs hg (zs0 HB); have GE191 := zgs hg (zs0 HB); replace HB := zE (zs0 HB) hb; clear hb hbox hg; obtain ⟨hcz13_0, hcz13_1, hcz13_2, hcz13_3, hcz13_4, hcz13_5⟩ := zd6 BK191; obtain ⟨hfz13_0, hfz13_1, hfz13_2, hfz13_3, hfz13_4, hfz13_5⟩ := zn6 BK191) | ((with_reducible refine gate_callee (f := 92) rfl ?_); refine zgl (N := some 18) Try.func92 #[.agg #[.int .i64 ((rd_T41 l1 x13_1).f0), .int .i64 ((rd_T41 l1 x13_1).f1), .int .i64 ((rd_T41 l1 x13_1).f2), .int .i64 ((rd_T41 l1 x13_1).f3), .int .i64 ((rd_T41 l1 x13_1).f4), .int .i64 ((rd_T41 l1 x13_1).f5)]] ?_; (with_reducible refine (impl_handBox.calls ((rd_T41 l1 x13_1).f0) ((rd_T41 l1 x13_1).f1) ((rd_T41 l1 x13_1).f2) ((rd_T41 l1 x13_1).f3) ((rd_T41 l1 x13_1).f4) ((rd_T41 l1 x13_1).f5) true _ A8.out).mono ?_); rintro e w14 ⟨rfl, hb⟩; refine ⟨_, rfl, ?_⟩; replace BK191 := zA (blk_below (g := gb191) (o := .cells #[.int .i64 ((rd_T41 l1 x13_1).f0), .int .i64 ((rd_T41 l1 x13_1).f1), .int .i64 ((rd_T41 l1 x13_1).f2), .int .i64 ((rd_T41 l1 x13_1).f3), .int .i64 ((rd_T41 l1 x13_1).f4), .int .i64 ((rd_T41 l1 x13_1).f5)] 41 (0, 0)) (zpb BK191) hb); replace HB := zE (zs1 HB GE191) hb; (try clear hb); (try clear hb2); (try clear hk); (try clear hi)) | (go_at_call 140; (with_reducible refine (impl_HandZone_140.calls k1 _ _ l0 _ _ _ _ _ _ gb191 true _ ?side1 ?side2 BK191.out A10.out).mono ?_); (case side1 => exact zC HR0 HB); (case side2 => exact HC0.out); rintro e w15 ⟨rfl, hb⟩; replace BK191 := zb BK191 hb; replace HB := zE (zs1 HB GE191) hb; (try clear hb); (try clear hb2); (try clear hk); (try clear hi)))
   go_roundg k1
   case measure => have := HK1.out; omega
   case rel => exact ⟨(wrap64 (x13_1 + 1)), zi, H', ⟨by have := HK1.out; omega⟩, ⟨zs1 HB GE191⟩⟩
def impl_HandTubeOk.f (k : Nat) (l0 : List (S55)) (l1 : List (S41)) : Option (Bool) := (impl_HandZonesOk.f k l0).bind fun t194 => (if t194 = true then ((impl_tubeOk.f k l0 l1).bind fun t195 => (some t195)) else (some false))
set_option maxHeartbeats 8000000 in
set_option maxRecDepth 100000 in
theorem impl_HandTubeOk.calls (k : Nat) (A0 : Option Addr) (c0 : Nat) (l0 : List (S55)) (A1 : Option Addr) (c1 : Nat) (l1 : List (S41)) (r : Bool) (w : World) (hr0 : Kd.C k55 w A0 l0.length l0) (hc0 : l0.length ≤ c0) (hr1 : Kd.C k41 w A1 l1.length l1) (hc1 : l1.length ≤ c1) (h : impl_HandTubeOk.f k l0 l1 = some r) :
 Calls Try.prog 36 #[.slice A0 l0.length c0, .slice A1 l1.length c1] w fun e w' => e = .returned (.bool r) ∧ Below w.heap.size w w' := by
 have HR0 := zA hr0
 have HC0 := zA hc0
 clear hr0 hc0
 have HR1 := zA hr1
 have HC1 := zA hc1
 clear hr1 hc1
 have HB := zA (Below.refl w.heap.size w)
 have H : ((impl_HandZonesOk.f k l0).bind fun t194 => (if t194 = true then ((impl_tubeOk.f k l0 l1).bind fun t195 => (some t195)) else (some false))) = some r := h
 clear h
 replace H := zbd H; obtain ⟨t194, A3, H⟩ := H
 by_cases c4 : t194 = true
 rotate_left
 ·replace c4 := Bool.eq_false_iff.mpr c4
  subst c4
  have H1 : (some false) = some r := by rw [if_neg (show ¬ (false = true) by decide)] at H; exact H
  clear H
  have H := H1
  clear H1
  obtain rfl := Option.some.inj H
  go_enter Try.func36, Try.ntmps36
  go_wp2_with (first | ((with_reducible refine gate_callee (f := 50) rfl ?_); refine zgl (N := some 6) Try.func50 #[.slice A0 l0.length c0] ?_; (with_reducible refine (impl_HandZonesOk.calls k _ _ l0 false _ ?side1 ?side2 A3.out).mono ?_); (case side1 => repeat (first | exact HR0.out | (with_reducible refine Kd.C_alloc ?_ _) | (with_reducible refine Kd.C_drewN ?_ _) | (with_reducible refine Kd.C_drew ?_))); (case side2 => exact HC0.out); rintro e w8 ⟨rfl, hb⟩; refine ⟨_, rfl, ?_⟩; replace HB := zE (zs0 HB) hb; (try clear hb); (try clear hb2); (try clear hk); (try clear hi)))
  go_ret
  exact ⟨ze, zs0 HB⟩
 subst c4
 have H1 : ((impl_tubeOk.f k l0 l1).bind fun t195 => (some t195)) = some r := by rw [if_pos rfl] at H; exact H
 clear H
 have H := H1
 clear H1
 replace H := zbd H; obtain ⟨t195, A5, H⟩ := H
 obtain rfl := Option.some.inj H
 go_enter Try.func36, Try.ntmps36
 go_wp2_with (first | ((with_reducible refine gate_callee (f := 50) rfl ?_); refine zgl (N := some 6) Try.func50 #[.slice A0 l0.length c0] ?_; (with_reducible refine (impl_HandZonesOk.calls k _ _ l0 true _ ?side1 ?side2 A3.out).mono ?_); (case side1 => repeat (first | exact HR0.out | (with_reducible refine Kd.C_alloc ?_ _) | (with_reducible refine Kd.C_drewN ?_ _) | (with_reducible refine Kd.C_drew ?_))); (case side2 => exact HC0.out); rintro e w6 ⟨rfl, hb⟩; refine ⟨_, rfl, ?_⟩; replace HB := zE (zs0 HB) hb; (try clear hb); (try clear hb2); (try clear hk); (try clear hi)) | (go_at_call 96; (with_reducible refine (impl_tubeOk.calls k _ _ l0 _ _ l1 t195 _ ?side1 ?side2 ?side3 ?side4 A5.out).mono ?_); (case side1 => exact zC HR0 HB); (case side2 => exact HC0.out); (case side3 => exact zC HR1 HB); (case side4 => exact HC1.out); rintro e w7 ⟨rfl, hb⟩; replace HB := zE (zs0 HB) hb; (try clear hb); (try clear hb2); (try clear hk); (try clear hi)))
 go_ret
 exact ⟨ze, zs0 HB⟩
end Go.Proofs.Ytbmplfpnhjhoiaa.QFnExactHandTubeOk
