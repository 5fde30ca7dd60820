/- The walk of what the law FnExactHandWordOk reaches: laid by a program of this session (ownprint.py). -/
import Derived.Test.YtbgcpbdnmpnjhaaQFnExactHandWordOkx0
import Derived.Test.YtbgcpbdnmpnjhaaQFnExactHandWordOkx6
import Derived.Test.YtbgcpbdnmpnjhaaQFnExactHandWordOkx7
import Derived.Test.YtbgcpbdnmpnjhaaQFnExactHandWordOkx8
namespace Go.Proofs.Ytbgcpbdnmpnjhaa.QFnExactHandWordOk
open Go.RowKit Go.Proofs.YtbgcpbdnmpnjhaaW.PrintWords Go.Proofs.YtbgcpbdnmpnjhaaW.PrintLast Go.Proofs.YtbgcpbdnmpnjhaaW.PrintMore Go.Proofs.Ytbgcpbdnmpnjhaa.Z
attribute [local go_sem] max2_int min2_int max_two min_two max_three min_three max_four min_four zdn   -- for this text's walks alone
set_option linter.unusedVariables false
set_option linter.unusedSimpArgs false
def impl_number.f (a0 : Int) : Option (Bool) := (impl_within.f a0 1 1000000).bind fun t195 => (some t195)
set_option maxHeartbeats 8000000 in
set_option maxRecDepth 100000 in
theorem impl_number.calls (a0 : Int) (r : Bool) (w : World) (h : impl_number.f a0 = some r) :
 Calls Try.prog 35 #[.int .i64 a0] w fun e w' => e = .returned (.bool r) ∧ Drawn0 w w' := by
 have H : ((impl_within.f a0 1 1000000).bind fun t195 => (some t195)) = some r := h
 clear h
 replace H := zbd H; obtain ⟨t195, A2, H⟩ := H
 obtain rfl := Option.some.inj H
 go_enter Try.func35, Try.ntmps35
 go_wp2_with (first | ((with_reducible refine gate_callee (f := 31) rfl ?_); refine zgl (N := some 4) Try.func31 #[.int .i64 a0, .int .i64 1, .int .i64 1000000] ?_; (with_reducible refine (impl_within.calls a0 1 1000000 t195 _ A2.out).mono ?_); rintro e w' ⟨rfl, ⟨nd, rfl⟩⟩; refine ⟨_, rfl, ?_⟩))
 go_ret
 exact ⟨by first | rfl | (simp; done) | (simp [*]; done), by repeat (first | exact Drawn0.refl _ | apply Drawn0.step)⟩
def impl_handBox.f (a0_0 : Int) (a0_1 : Int) (a0_2 : Int) (a0_3 : Int) (a0_4 : Int) (a0_5 : Int) : Option (Bool) := (impl_within.f a0_0 0 15).bind fun t197 => (if t197 = true then ((impl_within.f a0_1 0 15).bind fun t198 => (if t198 = true then (if 0 ≤ a0_2 then (if a0_2 ≤ a0_3 then (if a0_3 ≤ 6 then (if 0 ≤ a0_4 then (if a0_4 ≤ a0_5 then (some (decide (a0_5 ≤ 10000))) else (some false)) else (some false)) else (some false)) else (some false)) else (some false)) else (some false))) else (some false))
set_option maxHeartbeats 8000000 in
set_option maxRecDepth 100000 in
theorem impl_handBox.calls (a0_0 : Int) (a0_1 : Int) (a0_2 : Int) (a0_3 : Int) (a0_4 : Int) (a0_5 : Int) (r : Bool) (w : World) (h : impl_handBox.f a0_0 a0_1 a0_2 a0_3 a0_4 a0_5 = some r) :
 Calls Try.prog 40 #[.agg #[.int .i64 a0_0, .int .i64 a0_1, .int .i64 a0_2, .int .i64 a0_3, .int .i64 a0_4, .int .i64 a0_5]] w fun e w' => e = .returned (.bool r) ∧ Below w.heap.size w w' := by
 have hu56 := Try.underlying56
 have HB := Aside0.mk (Below.refl w.heap.size w)
 have H : ((impl_within.f a0_0 0 15).bind fun t197 => (if t197 = true then ((impl_within.f a0_1 0 15).bind fun t198 => (if t198 = true then (if 0 ≤ a0_2 then (if a0_2 ≤ a0_3 then (if a0_3 ≤ 6 then (if 0 ≤ a0_4 then (if a0_4 ≤ a0_5 then (some (decide (a0_5 ≤ 10000))) else (some false)) else (some false)) else (some false)) else (some false)) else (some false)) else (some false))) else (some false))) = some r := h
 clear h
 replace H := zbd H; obtain ⟨t197, A2, H⟩ := H
 by_cases c3 : t197 = true
 rotate_left
 ·replace c3 := Bool.eq_false_iff.mpr c3
  subst c3
  have H1 : (some false) = some r := by rw [if_neg (show ¬ (false = true) by decide)] at H; exact H
  clear H
  have H := H1
  clear H1
  obtain rfl := Option.some.inj H
  go_enter Try.func40, Try.ntmps40
  go_wp2_with (first | ((with_reducible refine gate_dst (N := 1) rfl ?_); refine zbx 1 #[.int .i64 a0_0, .int .i64 a0_1, .int .i64 a0_2, .int .i64 a0_3, .int .i64 a0_4, .int .i64 a0_5] 56 ?_; intro gb196 hg w25 hbox hb; have BK196 := zA hbox; have GW196 := zgs hg (zs0 HB); have GE196 := zgs hg (zs0 HB); replace HB := zE (zs0 HB) hb; clear hb hbox hg; obtain ⟨hcz26_0, hcz26_1, hcz26_2, hcz26_3, hcz26_4, hcz26_5⟩ := zd6 BK196; obtain ⟨hfz26_0, hfz26_1, hfz26_2, hfz26_3, hfz26_4, hfz26_5⟩ := zn6 BK196) | ((with_reducible refine gate_callee (f := 31) rfl ?_); refine zgl (N := some 5) Try.func31 #[.int .i64 a0_0, .int .i64 0, .int .i64 15] ?_; (with_reducible refine (impl_within.calls a0_0 0 15 false _ A2.out).mono ?_); rintro e w' ⟨rfl, ⟨nd, rfl⟩⟩; refine ⟨_, rfl, ?_⟩))
  go_ret
  exact ⟨ze, zs1 HB GE196⟩
 subst c3
 have H1 : ((impl_within.f a0_1 0 15).bind fun t198 => (if t198 = true then (if 0 ≤ a0_2 then (if a0_2 ≤ a0_3 then (if a0_3 ≤ 6 then (if 0 ≤ a0_4 then (if a0_4 ≤ a0_5 then (some (decide (a0_5 ≤ 10000))) else (some false)) else (some false)) else (some false)) else (some false)) else (some false)) else (some false))) = some r := by rw [if_pos rfl] at H; exact H
 clear H
 have H := H1
 clear H1
 replace H := zbd H; obtain ⟨t198, A4, H⟩ := H
 by_cases c5 : t198 = true
 rotate_left
 ·replace c5 := Bool.eq_false_iff.mpr c5
  subst c5
  have H1 : (some false) = some r := by rw [if_neg (show ¬ (false = true) by decide)] at H; exact H
  clear H
  have H := H1
  clear H1
  obtain rfl := Option.some.inj H
  go_enter Try.func40, Try.ntmps40
  go_wp2_with (first | ((with_reducible refine gate_dst (N := 1) rfl ?_); refine zbx 1 #[.int .i64 a0_0, .int .i64 a0_1, .int .i64 a0_2, .int .i64 a0_3, .int .i64 a0_4, .int .i64 a0_5] 56 ?_; intro gb196 hg w23 hbox hb; have BK196 := zA hbox; have GW196 := zgs hg (zs0 HB); have GE196 := zgs hg (zs0 HB); replace HB := zE (zs0 HB) hb; clear hb hbox hg; obtain ⟨hcz24_0, hcz24_1, hcz24_2, hcz24_3, hcz24_4, hcz24_5⟩ := zd6 BK196; obtain ⟨hfz24_0, hfz24_1, hfz24_2, hfz24_3, hfz24_4, hfz24_5⟩ := zn6 BK196) | ((with_reducible refine gate_callee (f := 31) rfl ?_); refine zgl (N := some 5) Try.func31 #[.int .i64 a0_0, .int .i64 0, .int .i64 15] ?_; (with_reducible refine (impl_within.calls a0_0 0 15 true _ A2.out).mono ?_); rintro e w' ⟨rfl, ⟨nd, rfl⟩⟩; refine ⟨_, rfl, ?_⟩) | (go_at_call 31; (with_reducible refine (impl_within.calls a0_1 0 15 false _ A4.out).mono ?_); rintro e w' ⟨rfl, ⟨nd, rfl⟩⟩))
  go_ret
  exact ⟨ze, zs1 HB GE196⟩
 subst c5
 have H1 : (if 0 ≤ a0_2 then (if a0_2 ≤ a0_3 then (if a0_3 ≤ 6 then (if 0 ≤ a0_4 then (if a0_4 ≤ a0_5 then (some (decide (a0_5 ≤ 10000))) else (some false)) else (some false)) else (some false)) else (some false)) else (some false)) = some r := by rw [if_pos rfl] at H; exact H
 clear H
 have H := H1
 clear H1
 by_cases c6 : 0 ≤ a0_2
 rotate_left
 ·rw [if_neg c6] at H
  have c6b0 : decide (0 ≤ a0_2) = false := decide_eq_false c6
  clear c6
  obtain rfl := Option.some.inj H
  go_enter Try.func40, Try.ntmps40
  go_wp2_with (first | ((with_reducible refine gate_dst (N := 1) rfl ?_); refine zbx 1 #[.int .i64 a0_0, .int .i64 a0_1, .int .i64 a0_2, .int .i64 a0_3, .int .i64 a0_4, .int .i64 a0_5] 56 ?_; intro gb196 hg w21 hbox hb; have BK196 := zA hbox; have GW196 := zgs hg (zs0 HB); have GE196 := zgs hg (zs0 HB); replace HB := zE (zs0 HB) hb; clear hb hbox hg; obtain ⟨hcz22_0, hcz22_1, hcz22_2, hcz22_3, hcz22_4, hcz22_5⟩ := zd6 BK196; obtain ⟨hfz22_0, hfz22_1, hfz22_2, hfz22_3, hfz22_4, hfz22_5⟩ := zn6 BK196) | ((with_reducible refine gate_callee (f := 31) rfl ?_); refine zgl (N := some 5) Try.func31 #[.int .i64 a0_0, .int .i64 0, .int .i64 15] ?_; (with_reducible refine (impl_within.calls a0_0 0 15 true _ A2.out).mono ?_); rintro e w' ⟨rfl, ⟨nd, rfl⟩⟩; refine ⟨_, rfl, ?_⟩) | (go_at_call 31; (with_reducible refine (impl_within.calls a0_1 0 15 true _ A4.out).mono ?_); rintro e w' ⟨rfl, ⟨nd, rfl⟩⟩))
  go_ret
  exact ⟨ze, zs1 HB GE196⟩
 rw [if_pos c6] at H
 have c6b0 : decide (0 ≤ a0_2) = true := decide_eq_true c6
 clear c6
 by_cases c7 : a0_2 ≤ a0_3
 rotate_left
 ·rw [if_neg c7] at H
  have c7b0 : decide (a0_2 ≤ a0_3) = false := decide_eq_false c7
  clear c7
  obtain rfl := Option.some.inj H
  go_enter Try.func40, Try.ntmps40
  go_wp2_with (first | ((with_reducible refine gate_dst (N := 1) rfl ?_); refine zbx 1 #[.int .i64 a0_0, .int .i64 a0_1, .int .i64 a0_2, .int .i64 a0_3, .int .i64 a0_4, .int .i64 a0_5] 56 ?_; intro gb196 hg w19 hbox hb; have BK196 := zA hbox; have GW196 := zgs hg (zs0 HB); have GE196 := zgs hg (zs0 HB); replace HB := zE (zs0 HB) hb; clear hb hbox hg; obtain ⟨hcz20_0, hcz20_1, hcz20_2, hcz20_3, hcz20_4, hcz20_5⟩ := zd6 BK196; obtain ⟨hfz20_0, hfz20_1, hfz20_2, hfz20_3, hfz20_4, hfz20_5⟩ := zn6 BK196) | ((with_reducible refine gate_callee (f := 31) rfl ?_); refine zgl (N := some 5) Try.func31 #[.int .i64 a0_0, .int .i64 0, .int .i64 15] ?_; (with_reducible refine (impl_within.calls a0_0 0 15 true _ A2.out).mono ?_); rintro e w' ⟨rfl, ⟨nd, rfl⟩⟩; refine ⟨_, rfl, ?_⟩) | (go_at_call 31; (with_reducible refine (impl_within.calls a0_1 0 15 true _ A4.out).mono ?_); rintro e w' ⟨rfl, ⟨nd, rfl⟩⟩))
  go_ret
  exact ⟨ze, zs1 HB GE196⟩
 rw [if_pos c7] at H
 have c7b0 : decide (a0_2 ≤ a0_3) = true := decide_eq_true c7
 clear c7
 by_cases c8 : a0_3 ≤ 6
 rotate_left
 ·rw [if_neg c8] at H
  have c8b0 : decide (a0_3 ≤ 6) = false := decide_eq_false c8
  clear c8
  obtain rfl := Option.some.inj H
  go_enter Try.func40, Try.ntmps40
  go_wp2_with (first | ((with_reducible refine gate_dst (N := 1) rfl ?_); refine zbx 1 #[.int .i64 a0_0, .int .i64 a0_1, .int .i64 a0_2, .int .i64 a0_3, .int .i64 a0_4, .int .i64 a0_5] 56 ?_; intro gb196 hg w17 hbox hb; have BK196 := zA hbox; have GW196 := zgs hg (zs0 HB); have GE196 := zgs hg (zs0 HB); replace HB := zE (zs0 HB) hb; clear hb hbox hg; obtain ⟨hcz18_0, hcz18_1, hcz18_2, hcz18_3, hcz18_4, hcz18_5⟩ := zd6 BK196; obtain ⟨hfz18_0, hfz18_1, hfz18_2, hfz18_3, hfz18_4, hfz18_5⟩ := zn6 BK196) | ((with_reducible refine gate_callee (f := 31) rfl ?_); refine zgl (N := some 5) Try.func31 #[.int .i64 a0_0, .int .i64 0, .int .i64 15] ?_; (with_reducible refine (impl_within.calls a0_0 0 15 true _ A2.out).mono ?_); rintro e w' ⟨rfl, ⟨nd, rfl⟩⟩; refine ⟨_, rfl, ?_⟩) | (go_at_call 31; (with_reducible refine (impl_within.calls a0_1 0 15 true _ A4.out).mono ?_); rintro e w' ⟨rfl, ⟨nd, rfl⟩⟩))
  go_ret
  exact ⟨ze, zs1 HB GE196⟩
 rw [if_pos c8] at H
 have c8b0 : decide (a0_3 ≤ 6) = true := decide_eq_true c8
 clear c8
 by_cases c9 : 0 ≤ a0_4
 rotate_left
 ·rw [if_neg c9] at H
  have c9b0 : decide (0 ≤ a0_4) = false := decide_eq_false c9
  clear c9
  obtain rfl := Option.some.inj H
  go_enter Try.func40, Try.ntmps40
  go_wp2_with (first | ((with_reducible refine gate_dst (N := 1) rfl ?_); refine zbx 1 #[.int .i64 a0_0, .int .i64 a0_1, .int .i64 a0_2, .int .i64 a0_3, .int .i64 a0_4, .int .i64 a0_5] 56 ?_; intro gb196 hg w15 hbox hb; have BK196 := zA hbox; have GW196 := zgs hg (zs0 HB); have GE196 := zgs hg (zs0 HB); replace HB := zE (zs0 HB) hb; clear hb hbox hg; obtain ⟨hcz16_0, hcz16_1, hcz16_2, hcz16_3, hcz16_4, hcz16_5⟩ := zd6 BK196; obtain ⟨hfz16_0, hfz16_1, hfz16_2, hfz16_3, hfz16_4, hfz16_5⟩ := zn6 BK196) | ((with_reducible refine gate_callee (f := 31) rfl ?_); refine zgl (N := some 5) Try.func31 #[.int .i64 a0_0, .int .i64 0, .int .i64 15] ?_; (with_reducible refine (impl_within.calls a0_0 0 15 true _ A2.out).mono ?_); rintro e w' ⟨rfl, ⟨nd, rfl⟩⟩; refine ⟨_, rfl, ?_⟩) | (go_at_call 31; (with_reducible refine (impl_within.calls a0_1 0 15 true _ A4.out).mono ?_); rintro e w' ⟨rfl, ⟨nd, rfl⟩⟩))
  go_ret
  exact ⟨ze, zs1 HB GE196⟩
 rw [if_pos c9] at H
 have c9b0 : decide (0 ≤ a0_4) = true := decide_eq_true c9
 clear c9
 by_cases c10 : a0_4 ≤ a0_5
 ·rw [if_pos c10] at H
  have c10b0 : decide (a0_4 ≤ a0_5) = true := decide_eq_true c10
  clear c10
  obtain rfl := Option.some.inj H
  go_enter Try.func40, Try.ntmps40
  go_wp2_with (first | ((with_reducible refine gate_dst (N := 1) rfl ?_); refine zbx 1 #[.int .i64 a0_0, .int .i64 a0_1, .int .i64 a0_2, .int .i64 a0_3, .int .i64 a0_4, .int .i64 a0_5] 56 ?_; intro gb196 hg w11 hbox hb; have BK196 := zA hbox; have GW196 := zgs hg (zs0 HB); have GE196 := zgs hg (zs0 HB); replace HB := zE (zs0 HB) hb; clear hb hbox hg; obtain ⟨hcz12_0, hcz12_1, hcz12_2, hcz12_3, hcz12_4, hcz12_5⟩ := zd6 BK196; obtain ⟨hfz12_0, hfz12_1, hfz12_2, hfz12_3, hfz12_4, hfz12_5⟩ := zn6 BK196) | ((with_reducible refine gate_callee (f := 31) rfl ?_); refine zgl (N := some 5) Try.func31 #[.int .i64 a0_0, .int .i64 0, .int .i64 15] ?_; (with_reducible refine (impl_within.calls a0_0 0 15 true _ A2.out).mono ?_); rintro e w' ⟨rfl, ⟨nd, rfl⟩⟩; refine ⟨_, rfl, ?_⟩) | (go_at_call 31; (with_reducible refine (impl_within.calls a0_1 0 15 true _ A4.out).mono ?_); rintro e w' ⟨rfl, ⟨nd, rfl⟩⟩))
  go_ret
  exact ⟨ze, zs1 HB GE196⟩
 rw [if_neg c10] at H
 have c10b0 : decide (a0_4 ≤ a0_5) = false := decide_eq_false c10
 clear c10
 obtain rfl := Option.some.inj H
 go_enter Try.func40, Try.ntmps40
 go_wp2_with (first | ((with_reducible refine gate_dst (N := 1) rfl ?_); refine zbx 1 #[.int .i64 a0_0, .int .i64 a0_1, .int .i64 a0_2, .int .i64 a0_3, .int .i64 a0_4, .int .i64 a0_5] 56 ?_; intro gb196 hg w13 hbox hb; have BK196 := zA hbox; have GW196 := zgs hg (zs0 HB); have GE196 := zgs hg (zs0 HB); replace HB := zE (zs0 HB) hb; clear hb hbox hg; obtain ⟨hcz14_0, hcz14_1, hcz14_2, hcz14_3, hcz14_4, hcz14_5⟩ := zd6 BK196; obtain ⟨hfz14_0, hfz14_1, hfz14_2, hfz14_3, hfz14_4, hfz14_5⟩ := zn6 BK196) | ((with_reducible refine gate_callee (f := 31) rfl ?_); refine zgl (N := some 5) Try.func31 #[.int .i64 a0_0, .int .i64 0, .int .i64 15] ?_; (with_reducible refine (impl_within.calls a0_0 0 15 true _ A2.out).mono ?_); rintro e w' ⟨rfl, ⟨nd, rfl⟩⟩; refine ⟨_, rfl, ?_⟩) | (go_at_call 31; (with_reducible refine (impl_within.calls a0_1 0 15 true _ A4.out).mono ?_); rintro e w' ⟨rfl, ⟨nd, rfl⟩⟩))
 go_ret
 exact ⟨ze, zs1 HB GE196⟩
def impl_HandZone_over.f (a0_0 : ByteArray) (a0_1 : Int) (a0_2 : Int) (a0_3 : Int) (a0_4 : Int) (a1 : Int) (a2 : Int) : Option (Bool) := (impl_within.f a1 a0_1 a0_3).bind fun t200 => (if t200 = true then ((impl_within.f a2 a0_2 a0_4).bind fun t201 => (some t201)) else (some false))
set_option maxHeartbeats 8000000 in
set_option maxRecDepth 100000 in
theorem impl_HandZone_over.calls (a0_0 : ByteArray) (a0_1 : Int) (a0_2 : Int) (a0_3 : Int) (a0_4 : Int) (a1 : Int) (a2 : Int) (r : Bool) (w : World) (h : impl_HandZone_over.f a0_0 a0_1 a0_2 a0_3 a0_4 a1 a2 = some r) :
 Calls Try.prog 43 #[.agg #[.string a0_0, .int .i64 a0_1, .int .i64 a0_2, .int .i64 a0_3, .int .i64 a0_4], .int .i64 a1, .int .i64 a2] w fun e w' => e = .returned (.bool r) ∧ Below w.heap.size w w' := by
 have hu48 := Try.underlying48
 have HB := Aside0.mk (Below.refl w.heap.size w)
 have H : ((impl_within.f a1 a0_1 a0_3).bind fun t200 => (if t200 = true then ((impl_within.f a2 a0_2 a0_4).bind fun t201 => (some t201)) else (some false))) = some r := h
 clear h
 replace H := zbd H; obtain ⟨t200, A4, H⟩ := H
 by_cases c5 : t200 = true
 rotate_left
 ·replace c5 := Bool.eq_false_iff.mpr c5
  subst c5
  have H1 : (some false) = some r := by rw [if_neg (show ¬ (false = true) by decide)] at H; exact H
  clear H
  have H := H1
  clear H1
  obtain rfl := Option.some.inj H
  go_enter Try.func43, Try.ntmps43
  go_wp2_with (first | ((with_reducible refine gate_dst (N := 3) rfl ?_); refine zbx 3 #[.string a0_0, .int .i64 a0_1, .int .i64 a0_2, .int .i64 a0_3, .int .i64 a0_4] 48 ?_; intro gb199 hg w9 hbox hb; have BK199 := zA hbox; have GW199 := zgs hg (zs0 HB); have GE199 := zgs hg (zs0 HB); replace HB := zE (zs0 HB) hb; clear hb hbox hg; obtain ⟨hcz10_0, hcz10_1, hcz10_2, hcz10_3, hcz10_4⟩ := zd5 BK199; obtain ⟨hfz10_0, hfz10_1, hfz10_2, hfz10_3, hfz10_4⟩ := zn5 BK199) | ((with_reducible refine gate_callee (f := 31) rfl ?_); refine zgl (N := some 12) Try.func31 #[.int .i64 a1, .int .i64 a0_1, .int .i64 a0_3] ?_; (with_reducible refine (impl_within.calls a1 a0_1 a0_3 false _ A4.out).mono ?_); rintro e w' ⟨rfl, ⟨nd, rfl⟩⟩; refine ⟨_, rfl, ?_⟩))
  go_ret
  exact ⟨ze, zs1 HB GE199⟩
 subst c5
 have H1 : ((impl_within.f a2 a0_2 a0_4).bind fun t201 => (some t201)) = some r := by rw [if_pos rfl] at H; exact H
 clear H
 have H := H1
 clear H1
 replace H := zbd H; obtain ⟨t201, A6, H⟩ := H
 obtain rfl := Option.some.inj H
 go_enter Try.func43, Try.ntmps43
 go_wp2_with (first | ((with_reducible refine gate_dst (N := 3) rfl ?_); refine zbx 3 #[.string a0_0, .int .i64 a0_1, .int .i64 a0_2, .int .i64 a0_3, .int .i64 a0_4] 48 ?_; intro gb199 hg w7 hbox hb; have BK199 := zA hbox; have GW199 := zgs hg (zs0 HB); have GE199 := zgs hg (zs0 HB); replace HB := zE (zs0 HB) hb; clear hb hbox hg; obtain ⟨hcz8_0, hcz8_1, hcz8_2, hcz8_3, hcz8_4⟩ := zd5 BK199; obtain ⟨hfz8_0, hfz8_1, hfz8_2, hfz8_3, hfz8_4⟩ := zn5 BK199) | ((with_reducible refine gate_callee (f := 31) rfl ?_); refine zgl (N := some 12) Try.func31 #[.int .i64 a1, .int .i64 a0_1, .int .i64 a0_3] ?_; (with_reducible refine (impl_within.calls a1 a0_1 a0_3 true _ A4.out).mono ?_); rintro e w' ⟨rfl, ⟨nd, rfl⟩⟩; refine ⟨_, rfl, ?_⟩) | (go_at_call 31; (with_reducible refine (impl_within.calls a2 a0_2 a0_4 t201 _ A6.out).mono ?_); rintro e w' ⟨rfl, ⟨nd, rfl⟩⟩))
 go_ret
 exact ⟨ze, zs1 HB GE199⟩
set_option maxHeartbeats 8000000 in
set_option maxRecDepth 100000 in
/-- The function value: is the zone over the box whose place it holds? -/
theorem tubeOk_1.calls (z0 : ByteArray) (z1 z2 z3 z4 : Int) (a1_0 a1_1 a1_2 a1_3 a1_4 a1_5 : Int) (gb : Nat) (r : Bool) (w : World) (hbk : w.heap[gb]? = some (.cells #[.int .i64 a1_0, .int .i64 a1_1, .int .i64 a1_2, .int .i64 a1_3, .int .i64 a1_4, .int .i64 a1_5] 56 (0, 0))) (h : impl_HandZone_over.f z0 z1 z2 z3 z4 a1_0 a1_1 = some r) :
 Calls Try.prog 42 #[.agg #[.string z0, .int .i64 z1, .int .i64 z2, .int .i64 z3, .int .i64 z4], .pointer (some ⟨gb, 0, none⟩)] w fun e w' => e = .returned (.bool r) ∧ Below w.heap.size w w' := by
 have hu55 := Try.underlying48
 have hu41 := Try.underlying56
 have BKb := zA hbk
 have A6 := zA h
 clear hbk h
 have HB := zA (Below.refl w.heap.size w)
 go_enter Try.func42, Try.ntmps42
 go_wp2_with (first | ((with_reducible refine gate_dst (N := 2) rfl ?_); refine zbx 2 #[.string z0, .int .i64 z1, .int .i64 z2, .int .i64 z3, .int .i64 z4] 48 ?_; intro gbz hg w1 hbox hb; have BKz := zA hbox; have GEz := zgs hg (zs0 HB); replace BKb := zb BKb hb; replace HB := zE (zs0 HB) hb; clear hb hbox hg; obtain ⟨hcz1_0, hcz1_1, hcz1_2, hcz1_3, hcz1_4⟩ := zd5 BKz; obtain ⟨hcz2_0, hcz2_1, hcz2_2, hcz2_3, hcz2_4, hcz2_5⟩ := zd6 BKb) | ((with_reducible refine gate_callee (f := 43) rfl ?_); refine zgl (N := some 9) Try.func43 #[.agg #[.string z0, .int .i64 z1, .int .i64 z2, .int .i64 z3, .int .i64 z4], .int .i64 a1_0, .int .i64 a1_1] ?_; (with_reducible refine (impl_HandZone_over.calls z0 z1 z2 z3 z4 a1_0 a1_1 r _ A6.out).mono ?_); rintro e w2 ⟨rfl, hb⟩; refine ⟨_, rfl, ?_⟩; replace HB := zE (zs1 HB GEz) hb; clear hb))
 go_ret
 exact ⟨ze, zs1 HB GEz⟩
def impl_HandZone_38.l0 : Nat → List (S48) → Int → Int → Int → Int → Option (Int)
 | 0, _, _, _, _, _ => none
 | k + 1, x0, x1, x2, x7, x8 => if x8 < x7 then (if 0 ≤ x8 then (if x8 < (x0.length : Int) then ((impl_HandZone_over.f ((rd_T48 x0 x8).f0) ((rd_T48 x0 x8).f1) ((rd_T48 x0 x8).f2) ((rd_T48 x0 x8).f3) ((rd_T48 x0 x8).f4) x1 x2).bind fun t203 => (if t203 = true then (some x8) else (impl_HandZone_38.l0 k x0 x1 x2 x7 (wrap64 (x8 + 1))))) else (none)) else (none)) else (some (-1))
def impl_HandZone_38.f (k : Nat) (l0 : List (S48)) (a1_0 a1_1 : Int) : Option (Int) := impl_HandZone_38.l0 k l0 a1_0 a1_1 (l0.length : Int) 0
set_option maxHeartbeats 8000000 in
set_option maxRecDepth 100000 in
theorem impl_HandZone_38.calls (k : Nat) (A0 : Option Addr) (c0 : Nat) (l0 : List (S48)) (a1_0 a1_1 a1_2 a1_3 a1_4 a1_5 : Int) (gb : Nat) (r : Int) (w : World) (hr0 : Kd.C k48 w A0 l0.length l0) (hc0 : l0.length ≤ c0) (hbk : w.heap[gb]? = some (.cells #[.int .i64 a1_0, .int .i64 a1_1, .int .i64 a1_2, .int .i64 a1_3, .int .i64 a1_4, .int .i64 a1_5] 56 (0, 0))) (h : impl_HandZone_38.f k l0 a1_0 a1_1 = some r) :
 Calls Try.prog 38 #[.slice A0 l0.length c0, .func (.func 42) #[] #[.pointer (some ⟨gb, 0, none⟩)]] w fun e w' => e = .returned (.int .i64 r) ∧ Below w.heap.size w w' := by
 have hu48 := Try.underlying48
 have HR0 := Aside0.mk hr0
 have HC0 := Aside0.mk hc0
 have HBK := zA hbk
 clear hr0 hc0 hbk
 have HB := Aside0.mk (Below.refl w.heap.size w)
 have H : (impl_HandZone_38.l0 k l0 a1_0 a1_1 (l0.length : Int) 0) = some r := h
 clear h
 have H' := Aside0.mk H
 clear H
 go_enter Try.func38, Try.ntmps38
 go_wp2
 go_loopg [8] k (fun kq v8 w' => ∃ (x8_1 : Int), v8 = .int .i64 x8_1 ∧ Aside0 (impl_HandZone_38.l0 kq l0 a1_0 a1_1 (l0.length : Int) x8_1 = some r) ∧ Aside0 (kq ≤ k) ∧ Aside0 (Below w.heap.size w w'))
 case atStart => exact ⟨(0), zi, H', ⟨Nat.le_refl _⟩, ⟨zs0 HB⟩⟩
 case round =>
  clear H'
  try clear p2
  obtain ⟨x8_1, rfl, HA, HK1, HB⟩ := hrel
  cases gk with
  | zero => exact absurd HA.out (by simp [impl_HandZone_38.l0])
  | succ k1 =>
   have H := HA.out
   clear HA
   simp only [impl_HandZone_38.l0] at H
   by_cases c3 : x8_1 < (l0.length : Int)
   rotate_left
   ·rw [if_neg c3] at H
    have c3b0 : decide (x8_1 < (l0.length : Int)) = false := decide_eq_false c3
    clear c3
    obtain rfl := Option.some.inj H
    go_wp2
    go_ret
    exact ⟨ze, zs0 HB⟩
   rw [if_pos c3] at H
   have c3b0 : decide (x8_1 < (l0.length : Int)) = true := decide_eq_true c3
   clear c3
   by_cases c4 : 0 ≤ x8_1
   rotate_left
   ·rw [if_neg c4] at H
    exact absurd H (by simp)
   rw [if_pos c4] at H
   have c4b0 : decide (0 ≤ x8_1) = true := decide_eq_true c4
   clear c4
   by_cases c5 : x8_1 < (l0.length : Int)
   rotate_left
   ·rw [if_neg c5] at H
    exact absurd H (by simp)
   rw [if_pos c5] at H
   have c5b0 : decide (x8_1 < (l0.length : Int)) = true := decide_eq_true c5
   clear c5
   replace H := zbd H; obtain ⟨t203, A6, H⟩ := H
   by_cases c7 : t203 = true
   ·subst c7
    have H1 : (some x8_1) = some r := by rw [if_pos rfl] at H; exact H
    clear H
    have H := H1
    clear H1
    obtain rfl := Option.some.inj H
    have p202 : 0 ≤ (x8_1 : Int) := za
    have q202 : x8_1 < (l0.length : Int) := za
    obtain ⟨ad202, e202, hx202_0, hx202_1, hx202_2, hx202_3, hx202_4⟩ := at_T48 HR0.out x8_1 p202 q202
    cases e202
    replace hx202_0 := zx HB hx202_0
    replace hx202_1 := zx HB hx202_1
    replace hx202_2 := zx HB hx202_2
    replace hx202_3 := zx HB hx202_3
    replace hx202_4 := zx HB hx202_4
    replace p202 := eq_true p202
    replace q202 := eq_true q202
    go_wp2_with (first | (go_at_call 42; (refine (tubeOk_1.calls ((rd_T48 l0 x8_1).f0) ((rd_T48 l0 x8_1).f1) ((rd_T48 l0 x8_1).f2) ((rd_T48 l0 x8_1).f3) ((rd_T48 l0 x8_1).f4) a1_0 a1_1 a1_2 a1_3 a1_4 a1_5 gb true _ (zb HBK HB.out).out A6.out).mono ?_); rintro e w8 ⟨rfl, hb⟩; replace HB := zE (zs0 HB) hb; (try clear hb); (try clear hb2); (try clear hk); (try clear hi)))
    go_ret
    exact ⟨ze, zs0 HB⟩
   replace c7 := Bool.eq_false_iff.mpr c7
   subst c7
   have H1 : (impl_HandZone_38.l0 k1 l0 a1_0 a1_1 (l0.length : Int) (wrap64 (x8_1 + 1))) = some r := by rw [if_neg (show ¬ (false = true) by decide)] at H; exact H
   clear H
   have H := H1
   clear H1
   have H' := Aside0.mk H
   clear H
   have p202 : 0 ≤ (x8_1 : Int) := za
   have q202 : x8_1 < (l0.length : Int) := za
   obtain ⟨ad202, e202, hx202_0, hx202_1, hx202_2, hx202_3, hx202_4⟩ := at_T48 HR0.out x8_1 p202 q202
   cases e202
   replace hx202_0 := zx HB hx202_0
   replace hx202_1 := zx HB hx202_1
   replace hx202_2 := zx HB hx202_2
   replace hx202_3 := zx HB hx202_3
   replace hx202_4 := zx HB hx202_4
   replace p202 := eq_true p202
   replace q202 := eq_true q202
   go_wp2_with (first | (go_at_call 42; (refine (tubeOk_1.calls ((rd_T48 l0 x8_1).f0) ((rd_T48 l0 x8_1).f1) ((rd_T48 l0 x8_1).f2) ((rd_T48 l0 x8_1).f3) ((rd_T48 l0 x8_1).f4) a1_0 a1_1 a1_2 a1_3 a1_4 a1_5 gb false _ (zb HBK HB.out).out A6.out).mono ?_); rintro e w9 ⟨rfl, hb⟩; replace HB := zE (zs0 HB) hb; (try clear hb); (try clear hb2); (try clear hk); (try clear hi)))
   go_roundg k1
   case measure => have := HK1.out; omega
   case rel => exact ⟨(wrap64 (x8_1 + 1)), zi, H', ⟨by have := HK1.out; omega⟩, ⟨zs0 HB⟩⟩
def impl_HandZone_41.f (k : Nat) (l0 : List (S48)) (a1_0 a1_1 : Int) : Option (Bool) := (impl_HandZone_38.f k l0 a1_0 a1_1).bind fun t204 => (some (decide (t204 ≥ 0)))
set_option maxHeartbeats 8000000 in
set_option maxRecDepth 100000 in
theorem impl_HandZone_41.calls (k : Nat) (A0 : Option Addr) (c0 : Nat) (l0 : List (S48)) (a1_0 a1_1 a1_2 a1_3 a1_4 a1_5 : Int) (gb : Nat) (r : Bool) (w : World) (hr0 : Kd.C k48 w A0 l0.length l0) (hc0 : l0.length ≤ c0) (hbk : w.heap[gb]? = some (.cells #[.int .i64 a1_0, .int .i64 a1_1, .int .i64 a1_2, .int .i64 a1_3, .int .i64 a1_4, .int .i64 a1_5] 56 (0, 0))) (h : impl_HandZone_41.f k l0 a1_0 a1_1 = some r) :
 Calls Try.prog 41 #[.slice A0 l0.length c0, .func (.func 42) #[] #[.pointer (some ⟨gb, 0, none⟩)]] w fun e w' => e = .returned (.bool r) ∧ Below w.heap.size w w' := by
 have HR0 := Aside0.mk hr0
 have HC0 := Aside0.mk hc0
 have HBK := zA hbk
 clear hr0 hc0 hbk
 have HB := Aside0.mk (Below.refl w.heap.size w)
 have H : ((impl_HandZone_38.f k l0 a1_0 a1_1).bind fun t204 => (some (decide (t204 ≥ 0)))) = some r := h
 clear h
 replace H := zbd H; obtain ⟨t204, A3, H⟩ := H
 obtain rfl := Option.some.inj H
 go_enter Try.func41, Try.ntmps41
 go_wp2_with (first | ((with_reducible refine gate_callee (f := 38) rfl ?_); refine zgl (N := some 7) Try.func38 #[.slice A0 l0.length c0, .func (.func 42) #[] #[.pointer (some ⟨gb, 0, none⟩)]] ?_; (with_reducible refine (impl_HandZone_38.calls k _ _ l0 a1_0 a1_1 a1_2 a1_3 a1_4 a1_5 gb t204 _ ?side1 ?side2 HBK.out A3.out).mono ?_); (case side1 => repeat (first | exact HR0.out | (with_reducible refine Kd.C_alloc ?_ _) | (with_reducible refine Kd.C_drewN ?_ _) | (with_reducible refine Kd.C_drew ?_))); (case side2 => exact HC0.out); rintro e w4 ⟨rfl, hb⟩; refine ⟨_, rfl, ?_⟩; replace HB := zE (zs0 HB) hb; (try clear hb); (try clear hb2); (try clear hk); (try clear hi)))
 go_ret
 exact ⟨ze, zs0 HB⟩
def impl_tubeOk.l0 : Nat → List (S48) → List (S56) → Int → Int → Option (Bool)
 | 0, _, _, _, _ => none
 | k + 1, x0, x11, x12, x13 => if x13 < x12 then (if 0 ≤ x13 then (if x13 < (x11.length : Int) then ((impl_handBox.f ((rd_T56 x11 x13).f0) ((rd_T56 x11 x13).f1) ((rd_T56 x11 x13).f2) ((rd_T56 x11 x13).f3) ((rd_T56 x11 x13).f4) ((rd_T56 x11 x13).f5)).bind fun t208 => (if t208 = true then ((impl_HandZone_41.f k x0 ((rd_T56 x11 x13).f0) ((rd_T56 x11 x13).f1)).bind fun t209 => (if t209 = true then (impl_tubeOk.l0 k x0 x11 x12 (wrap64 (x13 + 1))) else (some false))) else (some false))) else (none)) else (none)) else (some true)
def impl_tubeOk.f (k : Nat) (l0 : List (S48)) (l1 : List (S56)) : Option (Bool) := (impl_within.f (l1.length : Int) 1 20).bind fun t205 => (if t205 = true then (impl_tubeOk.l0 k l0 l1 (l1.length : Int) 0) else (some false))
set_option maxHeartbeats 8000000 in
set_option maxRecDepth 100000 in
theorem impl_tubeOk.calls (k : Nat) (A0 : Option Addr) (c0 : Nat) (l0 : List (S48)) (A1 : Option Addr) (c1 : Nat) (l1 : List (S56)) (r : Bool) (w : World) (hr0 : Kd.C k48 w A0 l0.length l0) (hc0 : l0.length ≤ c0) (hr1 : Kd.C k56 w A1 l1.length l1) (hc1 : l1.length ≤ c1) (h : impl_tubeOk.f k l0 l1 = some r) :
 Calls Try.prog 36 #[.slice A0 l0.length c0, .slice A1 l1.length c1] w fun e w' => e = .returned (.bool r) ∧ Below w.heap.size w w' := by
 have hmf : ∀ (fn : Fn) (first cap : Array Value) (w : World), (Instr.makeFunc fn first cap).run Try.prog w = .ok (.func fn first cap) w := fun _ _ _ _ => rfl
 have hu56 := Try.underlying56
 have HR0 := Aside0.mk hr0
 have HC0 := Aside0.mk hc0
 clear hr0 hc0
 have HR1 := Aside0.mk hr1
 have HC1 := Aside0.mk hc1
 clear hr1 hc1
 have HB := Aside0.mk (Below.refl w.heap.size w)
 have H : ((impl_within.f (l1.length : Int) 1 20).bind fun t205 => (if t205 = true then (impl_tubeOk.l0 k l0 l1 (l1.length : Int) 0) else (some false))) = some r := h
 clear h
 replace H := zbd H; obtain ⟨t205, A3, H⟩ := H
 by_cases c4 : t205 = true
 rotate_left
 ·replace c4 := Bool.eq_false_iff.mpr c4
  subst c4
  have H1 : (some false) = some r := by rw [if_neg (show ¬ (false = true) by decide)] at H; exact H
  clear H
  have H := H1
  clear H1
  obtain rfl := Option.some.inj H
  go_enter Try.func36, Try.ntmps36
  go_wp2_with (first | ((with_reducible refine gate_callee (f := 31) rfl ?_); refine zgl (N := some 9) Try.func31 #[.int .i64 (l1.length : Int), .int .i64 1, .int .i64 20] ?_; (with_reducible refine (impl_within.calls (l1.length : Int) 1 20 false _ A3.out).mono ?_); rintro e w' ⟨rfl, ⟨nd, rfl⟩⟩; refine ⟨_, rfl, ?_⟩))
  go_ret
  exact ⟨ze, zs0 HB⟩
 subst c4
 have H1 : (impl_tubeOk.l0 k l0 l1 (l1.length : Int) 0) = some r := by rw [if_pos rfl] at H; exact H
 clear H
 have H := H1
 clear H1
 have H' := Aside0.mk H
 clear H
 go_enter Try.func36, Try.ntmps36
 go_wp2_with (first | ((with_reducible refine gate_callee (f := 31) rfl ?_); refine zgl (N := some 9) Try.func31 #[.int .i64 (l1.length : Int), .int .i64 1, .int .i64 20] ?_; (with_reducible refine (impl_within.calls (l1.length : Int) 1 20 true _ A3.out).mono ?_); rintro e w' ⟨rfl, ⟨nd, rfl⟩⟩; refine ⟨_, rfl, ?_⟩))
 go_loopg [13] k (fun kq v13 w' => ∃ (x13_1 : Int), v13 = .int .i64 x13_1 ∧ Aside0 (impl_tubeOk.l0 kq l0 l1 (l1.length : Int) x13_1 = some r) ∧ Aside0 (kq ≤ k) ∧ Aside0 (Below w.heap.size w w'))
 case atStart => exact ⟨(0), zi, H', ⟨Nat.le_refl _⟩, ⟨zs0 HB⟩⟩
 case round =>
  clear H'
  try clear c1
  try clear p2
  try clear c3
  try clear c4
  obtain ⟨x13_1, rfl, HA, HK1, HB⟩ := hrel
  cases gk with
  | zero => exact absurd HA.out (by simp [impl_tubeOk.l0])
  | succ k1 =>
   have H := HA.out
   clear HA
   simp only [impl_tubeOk.l0] at H
   by_cases c5 : x13_1 < (l1.length : Int)
   rotate_left
   ·rw [if_neg c5] at H
    have c5b0 : decide (x13_1 < (l1.length : Int)) = false := decide_eq_false c5
    clear c5
    obtain rfl := Option.some.inj H
    go_wp2
    go_ret
    exact ⟨ze, zs0 HB⟩
   rw [if_pos c5] at H
   have c5b0 : decide (x13_1 < (l1.length : Int)) = true := decide_eq_true c5
   clear c5
   by_cases c6 : 0 ≤ x13_1
   rotate_left
   ·rw [if_neg c6] at H
    exact absurd H (by simp)
   rw [if_pos c6] at H
   have c6b0 : decide (0 ≤ x13_1) = true := decide_eq_true c6
   clear c6
   by_cases c7 : x13_1 < (l1.length : Int)
   rotate_left
   ·rw [if_neg c7] at H
    exact absurd H (by simp)
   rw [if_pos c7] at H
   have c7b0 : decide (x13_1 < (l1.length : Int)) = true := decide_eq_true c7
   clear c7
   replace H := zbd H; obtain ⟨t208, A8, H⟩ := H
   by_cases c9 : t208 = true
   rotate_left
   ·replace c9 := Bool.eq_false_iff.mpr c9
    subst c9
    have H1 : (some false) = some r := by rw [if_neg (show ¬ (false = true) by decide)] at H; exact H
    clear H
    have H := H1
    clear H1
    obtain rfl := Option.some.inj H
    have p206 : 0 ≤ (x13_1 : Int) := za
    have q206 : x13_1 < (l1.length : Int) := za
    obtain ⟨ad206, e206, hx206_0, hx206_1, hx206_2, hx206_3, hx206_4, hx206_5⟩ := at_T56 HR1.out x13_1 p206 q206
    cases e206
    replace hx206_0 := zx HB hx206_0
    replace hx206_1 := zx HB hx206_1
    replace hx206_2 := zx HB hx206_2
    replace hx206_3 := zx HB hx206_3
    replace hx206_4 := zx HB hx206_4
    replace hx206_5 := zx HB hx206_5
    replace p206 := eq_true p206
    replace q206 := eq_true q206
    go_wp2_with (first | ((with_reducible refine gate_dst (N := 6) rfl ?_); refine zbx 6 #[.int .i64 0, .int .i64 0, .int .i64 0, .int .i64 0, .int .i64 0, .int .i64 0] 56 ?_; intro gb207 hg w20 hbox hb; have BK207 := zA hbox; have GW207 := zgs hg (zs0 HB); have GE207 := zgs hg (zs0 HB); replace HB := zE (zs0 HB) hb; clear hb hbox hg; obtain ⟨hcz21_0, hcz21_1, hcz21_2, hcz21_3, hcz21_4, hcz21_5⟩ := zd6 BK207; obtain ⟨hfz21_0, hfz21_1, hfz21_2, hfz21_3, hfz21_4, hfz21_5⟩ := zn6 BK207) | ((with_reducible refine gate_callee (f := 40) rfl ?_); refine zgl (N := some 18) Try.func40 #[.agg #[.int .i64 ((rd_T56 l1 x13_1).f0), .int .i64 ((rd_T56 l1 x13_1).f1), .int .i64 ((rd_T56 l1 x13_1).f2), .int .i64 ((rd_T56 l1 x13_1).f3), .int .i64 ((rd_T56 l1 x13_1).f4), .int .i64 ((rd_T56 l1 x13_1).f5)]] ?_; (with_reducible refine (impl_handBox.calls ((rd_T56 l1 x13_1).f0) ((rd_T56 l1 x13_1).f1) ((rd_T56 l1 x13_1).f2) ((rd_T56 l1 x13_1).f3) ((rd_T56 l1 x13_1).f4) ((rd_T56 l1 x13_1).f5) false _ A8.out).mono ?_); rintro e w22 ⟨rfl, hb⟩; refine ⟨_, rfl, ?_⟩; replace BK207 := Aside0.mk (blk_below (g := gb207) (o := .cells #[.int .i64 ((rd_T56 l1 x13_1).f0), .int .i64 ((rd_T56 l1 x13_1).f1), .int .i64 ((rd_T56 l1 x13_1).f2), .int .i64 ((rd_T56 l1 x13_1).f3), .int .i64 ((rd_T56 l1 x13_1).f4), .int .i64 ((rd_T56 l1 x13_1).f5)] 56 (0, 0)) (zpb BK207) hb); replace HB := zE (zs1 HB GE207) hb; (try clear hb); (try clear hb2); (try clear hk); (try clear hi)))
    go_ret
    exact ⟨ze, zs1 HB GE207⟩
   subst c9
   have H1 : ((impl_HandZone_41.f k1 l0 ((rd_T56 l1 x13_1).f0) ((rd_T56 l1 x13_1).f1)).bind fun t209 => (if t209 = true then (impl_tubeOk.l0 k1 l0 l1 (l1.length : Int) (wrap64 (x13_1 + 1))) else (some false))) = some r := by rw [if_pos rfl] at H; exact H
   clear H
   have H := H1
   clear H1
   replace H := zbd H; obtain ⟨t209, A10, H⟩ := H
   by_cases c11 : t209 = true
   rotate_left
   ·replace c11 := Bool.eq_false_iff.mpr c11
    subst c11
    have H1 : (some false) = some r := by rw [if_neg (show ¬ (false = true) by decide)] at H; exact H
    clear H
    have H := H1
    clear H1
    obtain rfl := Option.some.inj H
    have p206 : 0 ≤ (x13_1 : Int) := za
    have q206 : x13_1 < (l1.length : Int) := za
    obtain ⟨ad206, e206, hx206_0, hx206_1, hx206_2, hx206_3, hx206_4, hx206_5⟩ := at_T56 HR1.out x13_1 p206 q206
    cases e206
    replace hx206_0 := zx HB hx206_0
    replace hx206_1 := zx HB hx206_1
    replace hx206_2 := zx HB hx206_2
    replace hx206_3 := zx HB hx206_3
    replace hx206_4 := zx HB hx206_4
    replace hx206_5 := zx HB hx206_5
    replace p206 := eq_true p206
    replace q206 := eq_true q206
    go_wp2_with (first | ((with_reducible refine gate_dst (N := 6) rfl ?_); refine zbx 6 #[.int .i64 0, .int .i64 0, .int .i64 0, .int .i64 0, .int .i64 0, .int .i64 0] 56 ?_; intro gb207 hg w16 hbox hb; have BK207 := zA hbox; have GW207 := zgs hg (zs0 HB); have GE207 := zgs hg (zs0 HB); replace HB := zE (zs0 HB) hb; clear hb hbox hg; obtain ⟨hcz17_0, hcz17_1, hcz17_2, hcz17_3, hcz17_4, hcz17_5⟩ := zd6 BK207; obtain ⟨hfz17_0, hfz17_1, hfz17_2, hfz17_3, hfz17_4, hfz17_5⟩ := zn6 BK207) | ((with_reducible refine gate_callee (f := 40) rfl ?_); refine zgl (N := some 18) Try.func40 #[.agg #[.int .i64 ((rd_T56 l1 x13_1).f0), .int .i64 ((rd_T56 l1 x13_1).f1), .int .i64 ((rd_T56 l1 x13_1).f2), .int .i64 ((rd_T56 l1 x13_1).f3), .int .i64 ((rd_T56 l1 x13_1).f4), .int .i64 ((rd_T56 l1 x13_1).f5)]] ?_; (with_reducible refine (impl_handBox.calls ((rd_T56 l1 x13_1).f0) ((rd_T56 l1 x13_1).f1) ((rd_T56 l1 x13_1).f2) ((rd_T56 l1 x13_1).f3) ((rd_T56 l1 x13_1).f4) ((rd_T56 l1 x13_1).f5) true _ A8.out).mono ?_); rintro e w18 ⟨rfl, hb⟩; refine ⟨_, rfl, ?_⟩; replace BK207 := Aside0.mk (blk_below (g := gb207) (o := .cells #[.int .i64 ((rd_T56 l1 x13_1).f0), .int .i64 ((rd_T56 l1 x13_1).f1), .int .i64 ((rd_T56 l1 x13_1).f2), .int .i64 ((rd_T56 l1 x13_1).f3), .int .i64 ((rd_T56 l1 x13_1).f4), .int .i64 ((rd_T56 l1 x13_1).f5)] 56 (0, 0)) (zpb BK207) hb); replace HB := zE (zs1 HB GE207) hb; (try clear hb); (try clear hb2); (try clear hk); (try clear hi)) | (go_at_call 41; (with_reducible refine (impl_HandZone_41.calls k1 _ _ l0 _ _ _ _ _ _ gb207 false _ ?side1 ?side2 BK207.out A10.out).mono ?_); (case side1 => exact zC HR0 HB); (case side2 => exact HC0.out); rintro e w19 ⟨rfl, hb⟩; replace BK207 := zb BK207 hb; replace HB := zE (zs1 HB GE207) hb; (try clear hb); (try clear hb2); (try clear hk); (try clear hi)))
    go_ret
    exact ⟨ze, zs1 HB GE207⟩
   subst c11
   have H1 : (impl_tubeOk.l0 k1 l0 l1 (l1.length : Int) (wrap64 (x13_1 + 1))) = some r := by rw [if_pos rfl] at H; exact H
   clear H
   have H := H1
   clear H1
   have H' := Aside0.mk H
   clear H
   have p206 : 0 ≤ (x13_1 : Int) := za
   have q206 : x13_1 < (l1.length : Int) := za
   obtain ⟨ad206, e206, hx206_0, hx206_1, hx206_2, hx206_3, hx206_4, hx206_5⟩ := at_T56 HR1.out x13_1 p206 q206
   cases e206
   replace hx206_0 := zx HB hx206_0
   replace hx206_1 := zx HB hx206_1
   replace hx206_2 := zx HB hx206_2
   replace hx206_3 := zx HB hx206_3
   replace hx206_4 := zx HB hx206_4
   replace hx206_5 := zx HB hx206_5
   replace p206 := eq_true p206
   replace q206 := eq_true q206
   go_wp2_with (first | ((with_reducible refine gate_dst (N := 6) rfl ?_); refine zbx 6 #[.int .i64 0, .int .i64 0, .int .i64 0, .int .i64 0, .int .i64 0, .int .i64 0] 56 ?_; intro gb207 hg w12 hbox hb; have BK207 := zA hbox; have GW207 := zgs hg (zs0 HB); have GE207 := zgs hg (zs0 HB); replace HB := zE (zs0 HB) hb; clear hb hbox hg; obtain ⟨hcz13_0, hcz13_1, hcz13_2, hcz13_3, hcz13_4, hcz13_5⟩ := zd6 BK207; obtain ⟨hfz13_0, hfz13_1, hfz13_2, hfz13_3, hfz13_4, hfz13_5⟩ := zn6 BK207) | ((with_reducible refine gate_callee (f := 40) rfl ?_); refine zgl (N := some 18) Try.func40 #[.agg #[.int .i64 ((rd_T56 l1 x13_1).f0), .int .i64 ((rd_T56 l1 x13_1).f1), .int .i64 ((rd_T56 l1 x13_1).f2), .int .i64 ((rd_T56 l1 x13_1).f3), .int .i64 ((rd_T56 l1 x13_1).f4), .int .i64 ((rd_T56 l1 x13_1).f5)]] ?_; (with_reducible refine (impl_handBox.calls ((rd_T56 l1 x13_1).f0) ((rd_T56 l1 x13_1).f1) ((rd_T56 l1 x13_1).f2) ((rd_T56 l1 x13_1).f3) ((rd_T56 l1 x13_1).f4) ((rd_T56 l1 x13_1).f5) true _ A8.out).mono ?_); rintro e w14 ⟨rfl, hb⟩; refine ⟨_, rfl, ?_⟩; replace BK207 := Aside0.mk (blk_below (g := gb207) (o := .cells #[.int .i64 ((rd_T56 l1 x13_1).f0), .int .i64 ((rd_T56 l1 x13_1).f1), .int .i64 ((rd_T56 l1 x13_1).f2), .int .i64 ((rd_T56 l1 x13_1).f3), .int .i64 ((rd_T56 l1 x13_1).f4), .int .i64 ((rd_T56 l1 x13_1).f5)] 56 (0, 0)) (zpb BK207) hb); replace HB := zE (zs1 HB GE207) hb; (try clear hb); (try clear hb2); (try clear hk); (try clear hi)) | (go_at_call 41; (with_reducible refine (impl_HandZone_41.calls k1 _ _ l0 _ _ _ _ _ _ gb207 true _ ?side1 ?side2 BK207.out A10.out).mono ?_); (case side1 => exact zC HR0 HB); (case side2 => exact HC0.out); rintro e w15 ⟨rfl, hb⟩; replace BK207 := zb BK207 hb; replace HB := zE (zs1 HB GE207) hb; (try clear hb); (try clear hb2); (try clear hk); (try clear hi)))
   go_roundg k1
   case measure => have := HK1.out; omega
   case rel => exact ⟨(wrap64 (x13_1 + 1)), zi, H', ⟨by have := HK1.out; omega⟩, ⟨zs1 HB GE207⟩⟩
set_option maxHeartbeats 8000000 in
set_option maxRecDepth 100000 in
/-- The function value: has the zone the name whose place it holds? -/
theorem zoneAt_1.calls (z0 : ByteArray) (z1 z2 z3 z4 : Int) (nm : ByteArray) (gb : Nat) (r : Bool) (w : World) (hbk : w.heap[gb]? = some (.cells #[.string nm] 9 (0, 0))) (h : (z0.toList == nm.toList) = r) :
 Calls Try.prog 39 #[.agg #[.string z0, .int .i64 z1, .int .i64 z2, .int .i64 z3, .int .i64 z4], .pointer (some ⟨gb, 0, none⟩)] w fun e w' => e = .returned (.bool r) ∧ Below w.heap.size w w' := by
 have hu48 := Try.underlying48
 subst h
 have BKb := zA hbk
 clear hbk
 have HB := zA (Below.refl w.heap.size w)
 go_enter Try.func39, Try.ntmps39
 go_wp2_with (first | ((with_reducible refine gate_dst (N := 2) rfl ?_); refine zbx 2 #[.string z0, .int .i64 z1, .int .i64 z2, .int .i64 z3, .int .i64 z4] 48 ?_; intro gbz hg w1 hbox hb; have BKz := zA hbox; have GEz := zgs hg (zs0 HB); replace BKb := zb BKb hb; replace HB := zE (zs0 HB) hb; clear hb hbox hg; obtain ⟨hcz1_0, hcz1_1, hcz1_2, hcz1_3, hcz1_4⟩ := zd5 BKz; have hcz2_0 := zc0 BKb))
 go_ret
 exact ⟨ze, zs1 HB GEz⟩
def impl_zoneFind.l0 : Nat → List (S48) → ByteArray → Int → Int → Option (Int)
 | 0, _, _, _, _ => none
 | k + 1, x0, x1, x7, x8 => if x8 < x7 then (if 0 ≤ x8 then (if x8 < (x0.length : Int) then (if ((rd_T48 x0 x8).f0.toList == x1.toList) = true then (some x8) else (impl_zoneFind.l0 k x0 x1 x7 (wrap64 (x8 + 1)))) else (none)) else (none)) else (some (-1))
def impl_zoneFind.f (k : Nat) (l0 : List (S48)) (a1 : ByteArray) : Option (Int) := impl_zoneFind.l0 k l0 a1 (l0.length : Int) 0
set_option maxHeartbeats 8000000 in
set_option maxRecDepth 100000 in
theorem impl_zoneFind.calls (k : Nat) (A0 : Option Addr) (c0 : Nat) (l0 : List (S48)) (a1 : ByteArray) (gb : Nat) (r : Int) (w : World) (hr0 : Kd.C k48 w A0 l0.length l0) (hc0 : l0.length ≤ c0) (hbk : w.heap[gb]? = some (.cells #[.string a1] 9 (0, 0))) (h : impl_zoneFind.f k l0 a1 = some r) :
 Calls Try.prog 38 #[.slice A0 l0.length c0, .func (.func 39) #[] #[.pointer (some ⟨gb, 0, none⟩)]] w fun e w' => e = .returned (.int .i64 r) ∧ Below w.heap.size w w' := by
 have hu48 := Try.underlying48
 have HR0 := zA hr0
 have HC0 := zA hc0
 have HBK := zA hbk
 clear hr0 hc0 hbk
 have HB := zA (Below.refl w.heap.size w)
 have H : (impl_zoneFind.l0 k l0 a1 (l0.length : Int) 0) = some r := h
 clear h
 have H' := zA H
 clear H
 go_enter Try.func38, Try.ntmps38
 go_wp2
 go_loopg [8] k (fun kq v8 w' => ∃ (x8_1 : Int), v8 = .int .i64 x8_1 ∧ Aside0 (impl_zoneFind.l0 kq l0 a1 (l0.length : Int) x8_1 = some r) ∧ Aside0 (kq ≤ k) ∧ Aside0 (Below w.heap.size w w'))
 case atStart => exact ⟨(0), zi, H', ⟨Nat.le_refl _⟩, ⟨zs0 HB⟩⟩
 case round =>
  clear H'
  obtain ⟨x8_1, rfl, HA, HK1, HB⟩ := hrel
  cases gk with
  | zero => exact absurd HA.out (by simp [impl_zoneFind.l0])
  | succ k1 =>
   have H := HA.out
   clear HA
   simp only [impl_zoneFind.l0] at H
   by_cases c3 : x8_1 < (l0.length : Int)
   rotate_left
   ·rw [if_neg c3] at H
    have c3b0 : decide (x8_1 < (l0.length : Int)) = false := decide_eq_false c3
    clear c3
    obtain rfl := Option.some.inj H
    go_wp2
    go_ret
    exact ⟨ze, zs0 HB⟩
   rw [if_pos c3] at H
   have c3b0 : decide (x8_1 < (l0.length : Int)) = true := decide_eq_true c3
   have q186 : x8_1 < (l0.length : Int) := c3
   clear c3
   by_cases c4 : 0 ≤ x8_1
   rotate_left
   ·rw [if_neg c4] at H
    exact absurd H (by simp)
   rw [if_pos c4] at H
   have c4b0 : decide (0 ≤ x8_1) = true := decide_eq_true c4
   have p186 : 0 ≤ (x8_1 : Int) := c4
   clear c4
   rw [if_pos q186] at H
   obtain ⟨ad186, e186, hx186_0, hx186_1, hx186_2, hx186_3, hx186_4⟩ := at_T48 HR0.out x8_1 p186 q186
   cases e186
   replace hx186_0 := zx HB hx186_0
   replace hx186_1 := zx HB hx186_1
   replace hx186_2 := zx HB hx186_2
   replace hx186_3 := zx HB hx186_3
   replace hx186_4 := zx HB hx186_4
   replace p186 := eq_true p186
   replace q186 := eq_true q186
   rcases A6 : ((rd_T48 l0 x8_1).f0.toList == a1.toList) with _ | _
   ·rw [A6, if_neg (by decide)] at H
    have A6' := zA A6
    clear A6
    have H' := zA H
    clear H
    go_wp2_with (first | (go_at_call 39; (refine (zoneAt_1.calls ((rd_T48 l0 x8_1).f0) ((rd_T48 l0 x8_1).f1) ((rd_T48 l0 x8_1).f2) ((rd_T48 l0 x8_1).f3) ((rd_T48 l0 x8_1).f4) a1 gb false _ (zb HBK HB.out).out A6'.out).mono ?_); rintro e w9 ⟨rfl, hb⟩; replace HB := zE (zs0 HB) hb; clear hb))
    go_roundg k1
    case measure => have := HK1.out; omega
    case rel => exact ⟨(wrap64 (x8_1 + 1)), zi, H', ⟨by have := HK1.out; omega⟩, ⟨zs0 HB⟩⟩
   ·rw [A6, if_pos rfl] at H
    have A6' := zA A6
    clear A6
    obtain rfl := Option.some.inj H
    go_wp2_with (first | (go_at_call 39; (refine (zoneAt_1.calls ((rd_T48 l0 x8_1).f0) ((rd_T48 l0 x8_1).f1) ((rd_T48 l0 x8_1).f2) ((rd_T48 l0 x8_1).f3) ((rd_T48 l0 x8_1).f4) a1 gb true _ (zb HBK HB.out).out A6'.out).mono ?_); rintro e w8 ⟨rfl, hb⟩; replace HB := zE (zs0 HB) hb; clear hb))
    go_ret
    exact ⟨ze, zs0 HB⟩
set_option maxHeartbeats 8000000 in
set_option maxRecDepth 100000 in
theorem impl_zoneAt.calls (k : Nat) (A0 : Option Addr) (c0 : Nat) (l0 : List (S48)) (a1 : ByteArray) (r : Int) (w : World) (hr0 : Kd.C k48 w A0 l0.length l0) (hc0 : l0.length ≤ c0) (h : impl_zoneFind.f k l0 a1 = some r) :
 Calls Try.prog 34 #[.slice A0 l0.length c0, .string a1] w fun e w' => e = .returned (.int .i64 r) ∧ Below w.heap.size w w' := by
 have hmf : ∀ (fn : Fn) (first cap : Array Value) (w : World), (Instr.makeFunc fn first cap).run Try.prog w = .ok (.func fn first cap) w := fun _ _ _ _ => rfl
 have HR0 := zA hr0
 have HC0 := zA hc0
 clear hr0 hc0
 have A3 := zA h
 clear h
 have HB := zA (Below.refl w.heap.size w)
 go_enter Try.func34, Try.ntmps34
 go_wp2_with (first | ((with_reducible refine gate_dst (N := 3) rfl ?_); refine zbx 3 #[.string a1] 9 ?_; intro gbz hg w1 hbox hb; have BKz := zA hbox; have GEz := zgs hg (zs0 HB); replace HB := zE (zs0 HB) hb; clear hb hbox hg) | ((with_reducible refine gate_callee (f := 38) rfl ?_); refine zgl (N := some 7) Try.func38 #[.slice A0 l0.length c0, .func (.func 39) #[] #[.pointer (some ⟨gbz, 0, none⟩)]] ?_; (with_reducible refine (impl_zoneFind.calls k _ _ l0 a1 gbz r _ ?side1 ?side2 BKz.out A3.out).mono ?_); (case side1 => exact zC HR0 HB); (case side2 => exact HC0.out); rintro e w4 ⟨rfl, hb⟩; refine ⟨_, rfl, ?_⟩; replace HB := zE (zs1 HB GEz) hb; clear hb))
 go_ret
 exact ⟨ze, zs1 HB GEz⟩
set_option maxHeartbeats 8000000 in
set_option maxRecDepth 100000 in
theorem wordOk_1.calls (k : Nat) (A0 : Option Addr) (c0 : Nat) (l0 : List (S48)) (a1 : ByteArray) (gb : Nat) (r : Int) (b : Bool) (w : World) (hr0 : Kd.C k48 w A0 l0.length l0) (hc0 : l0.length ≤ c0) (hbk : w.heap[gb]? = some (.cells #[.slice A0 l0.length c0] 29 (0, 0))) (h : impl_zoneFind.f k l0 a1 = some r) (hd : decide (0 ≤ r) = b) :
 Calls Try.prog 33 #[.string a1, .pointer (some ⟨gb, 0, none⟩)] w fun e w' => e = .returned (.bool b) ∧ Below w.heap.size w w' := by
 subst hd
 have HR0 := zA hr0
 have HC0 := zA hc0
 have HBK := zA hbk
 clear hr0 hc0 hbk
 have A3 := zA h
 clear h
 have HB := zA (Below.refl w.heap.size w)
 have hcz2_0 := zc0 HBK
 go_enter Try.func33, Try.ntmps33
 go_wp2_with (first | ((with_reducible refine gate_callee (f := 34) rfl ?_); refine zgl (N := some 6) Try.func34 #[.slice A0 l0.length c0, .string a1] ?_; (with_reducible refine (impl_zoneAt.calls k _ _ l0 a1 r _ ?side1 ?side2 A3.out).mono ?_); (case side1 => repeat (first | exact HR0.out | (with_reducible refine Kd.C_alloc ?_ _) | (with_reducible refine Kd.C_drewN ?_ _) | (with_reducible refine Kd.C_drew ?_))); (case side2 => exact HC0.out); rintro e w4 ⟨rfl, hb⟩; refine ⟨_, rfl, ?_⟩; replace HB := zE (zs0 HB) hb; clear hb))
 go_ret
 exact ⟨ze, zs0 HB⟩
/-- What a word has to have, step by step: r where all is well so far. -/
def impl_wordOk.c1 (n : Bool) (kd nu : Int) (r : Option Bool) : Option Bool := if n = true then ((impl_number.f nu).bind fun x => if x = true then r else if kd = 4 then (if nu = 0 then r else some false) else some false) else (if nu = 0 then r else some false)
def impl_wordOk.c2 (la : Bool) (nu t : Int) (r : Option Bool) : Option Bool := if la = true then ((impl_number.f t).bind fun x => if x = true then (if t < nu then some false else r) else some false) else (if t = 0 then r else some false)
def impl_wordOk.c3 (tu : Bool) (t : Int) (r : Option Bool) : Option Bool := if tu = true then ((impl_number.f t).bind fun x => if x = true then r else some false) else (if t = 0 then r else some false)
def impl_wordOk.c4 (tb : Bool) (k : Nat) (l0 : List (S48)) (l1 : List (S56)) : Option Bool := if tb = true then impl_tubeOk.f k l0 l1 else (if (l1.length : Int) = 0 then some true else some false)
def impl_wordOk.e (k : Nat) (fr tz : Bool) (fl : ByteArray) (r : Option Bool) : Option Bool := if fr = true then (if tz = true then ((impl_isName.f k fl).bind fun x => if x = true then r else some false) else some false) else some false
def impl_wordOk.g (k : Nat) (n la tu tb : Bool) (l0 : List (S48)) (a1_0 a1_4 a1_5 a1_6 : Int) (l1_7 : List (S56)) : Option Bool := impl_wordOk.c1 n a1_0 a1_4 (impl_wordOk.c2 la a1_4 a1_5 (impl_wordOk.c3 tu a1_6 (impl_wordOk.c4 tb k l0 l1_7)))
def impl_wordOk.d (k : Nat) (l0 : List (S48)) (a1_0 : Int) (a1_1 a1_2 a1_3 : ByteArray) (a1_4 a1_5 a1_6 : Int) (l1_7 : List (S56)) (a b : Int) : Option Bool :=
 if a1_0 = 7 then impl_wordOk.e k (decide (0 ≤ a)) (a1_2.toList == ([] : List UInt8)) a1_3 (impl_wordOk.g k true false false true l0 a1_0 a1_4 a1_5 a1_6 l1_7)
 else if a1_0 = 8 then impl_wordOk.e k (a1_1.toList == ([] : List UInt8)) (decide (0 ≤ b)) a1_3 (impl_wordOk.g k true false false false l0 a1_0 a1_4 a1_5 a1_6 l1_7)
 else if a1_0 = 9 then impl_wordOk.e k (a1_1.toList == ([] : List UInt8)) (decide (0 ≤ b)) a1_3 (impl_wordOk.g k true false false false l0 a1_0 a1_4 a1_5 a1_6 l1_7)
 else impl_wordOk.e k (decide (0 ≤ a)) (decide (0 ≤ b)) a1_3 (
  if a1_0 = 1 then impl_wordOk.g k true false false true l0 a1_0 a1_4 a1_5 a1_6 l1_7
  else if a1_0 = 2 then impl_wordOk.g k true false false false l0 a1_0 a1_4 a1_5 a1_6 l1_7
  else if a1_0 = 3 then impl_wordOk.g k true false false false l0 a1_0 a1_4 a1_5 a1_6 l1_7
  else if a1_0 = 4 then impl_wordOk.g k true true false false l0 a1_0 a1_4 a1_5 a1_6 l1_7
  else if a1_0 = 5 then impl_wordOk.g k true true true true l0 a1_0 a1_4 a1_5 a1_6 l1_7
  else if a1_0 = 6 then impl_wordOk.g k false false true false l0 a1_0 a1_4 a1_5 a1_6 l1_7
  else some false)
def impl_wordOk.f (k : Nat) (l0 : List (S48)) (a1_0 : Int) (a1_1 : ByteArray) (a1_2 : ByteArray) (a1_3 : ByteArray) (a1_4 : Int) (a1_5 : Int) (a1_6 : Int) (l1_7 : List (S56)) : Option (Bool) := (impl_zoneFind.f k l0 a1_1).bind fun a => (impl_zoneFind.f k l0 a1_2).bind fun b => impl_wordOk.d k l0 a1_0 a1_1 a1_2 a1_3 a1_4 a1_5 a1_6 l1_7 a b
set_option maxHeartbeats 64000000 in
set_option maxRecDepth 100000 in
theorem impl_wordOk.calls (k : Nat) (A0 : Option Addr) (c0 : Nat) (l0 : List (S48)) (a1_0 : Int) (a1_1 : ByteArray) (a1_2 : ByteArray) (a1_3 : ByteArray) (a1_4 : Int) (a1_5 : Int) (a1_6 : Int) (A1_7 : Option Addr) (c1_7 : Nat) (l1_7 : List (S56)) (r : Bool) (w : World) (hr0 : Kd.C k48 w A0 l0.length l0) (hc0 : l0.length ≤ c0) (hr1_7 : Kd.C k56 w A1_7 l1_7.length l1_7) (hc1_7 : l1_7.length ≤ c1_7) (h : impl_wordOk.f k l0 a1_0 a1_1 a1_2 a1_3 a1_4 a1_5 a1_6 l1_7 = some r) :
 Calls Try.prog 24 #[.slice A0 l0.length c0, .agg #[.int .i64 a1_0, .string a1_1, .string a1_2, .string a1_3, .int .i64 a1_4, .int .i64 a1_5, .int .i64 a1_6, .slice A1_7 l1_7.length c1_7]] w fun e w' => e = .returned (.bool r) ∧ Below w.heap.size w w' := by
 have hmf : ∀ (fn : Fn) (first cap : Array Value) (w : World), (Instr.makeFunc fn first cap).run Try.prog w = .ok (.func fn first cap) w := fun _ _ _ _ => rfl
 have hu33 := Try.underlying33
 have HR0 := zA hr0
 have HC0 := zA hc0
 have HR1 := zA hr1_7
 have HC1 := zA hc1_7
 clear hr0 hc0 hr1_7 hc1_7
 have HB := zA (Below.refl w.heap.size w)
 unfold impl_wordOk.f at h
 have H := h
 clear h
 replace H := zbd H; obtain ⟨ra, A1, H⟩ := H
 replace H := zbd H; obtain ⟨rb, A2, H⟩ := H
 have HC := zA H
 clear H
 go_enter Try.func24, Try.ntmps24
 go_upto_region 2 with (first | ((with_reducible refine gate_dst (N := 2) rfl ?_); refine zbx 2 #[.slice A0 l0.length c0] 29 ?_; intro gbz hg w1 hbox hb; have BKz := zA hbox; have GEz := zgs hg (zs0 HB); replace HB := zE (zs0 HB) hb; clear hb hbox hg) | ((with_reducible refine gate_dst (N := 3) rfl ?_); refine zbx 3 #[.int .i64 a1_0, .string a1_1, .string a1_2, .string a1_3, .int .i64 a1_4, .int .i64 a1_5, .int .i64 a1_6, .slice A1_7 l1_7.length c1_7] 33 ?_; intro gbw hg w2 hbox hb; have BKw := zA hbox; have GEw := zgs hg (zs1 HB GEz); replace BKz := zb BKz hb; replace HB := zE (zs1 HB GEz) hb; clear hb hbox hg; obtain ⟨hcz5_0, hcz5_1, hcz5_2, hcz5_3, hcz5_4, hcz5_5, hcz5_6, hcz5_7⟩ := zd8 BKw; have hcz6_0 := zc0 BKz))
 go_cut [6, 7] (fun v6 v7 wx => v6 = .bool (decide (0 ≤ ra)) ∧ v7 = .bool (decide (0 ≤ rb)) ∧ Aside0 (wx.heap[gbz]? = some (.cells #[.slice A0 l0.length c0] 29 (0, 0))) ∧ Aside0 (wx.heap[gbw]? = some (.cells #[.int .i64 a1_0, .string a1_1, .string a1_2, .string a1_3, .int .i64 a1_4, .int .i64 a1_5, .int .i64 a1_6, .slice A1_7 l1_7.length c1_7] 33 (0, 0))) ∧ Aside0 (Below w.heap.size w wx))
 case first =>
  clear HC
  go_region_with (first | (go_at_call 33; (refine (wordOk_1.calls k A0 c0 l0 a1_1 gbz ra _ _ ?side1 HC0.out ?side3 A1.out rfl).mono ?_); (case side1 => exact zC HR0 HB); (case side3 => exact zh BKz); rintro e wn ⟨rfl, hb⟩; replace BKz := zb BKz hb; replace BKw := zb BKw hb; replace HB := zE (zs2 HB GEz GEw) hb; clear hb; obtain ⟨hcz5_0, hcz5_1, hcz5_2, hcz5_3, hcz5_4, hcz5_5, hcz5_6, hcz5_7⟩ := zd8 BKw; have hcz6_0 := zc0 BKz) | (go_at_call 33; (refine (wordOk_1.calls k A0 c0 l0 a1_2 gbz rb _ _ ?side1 HC0.out ?side3 A2.out rfl).mono ?_); (case side1 => exact zC HR0 HB); (case side3 => exact zh BKz); rintro e wn ⟨rfl, hb⟩; replace BKz := zb BKz hb; replace BKw := zb BKw hb; replace HB := zE (zs2 HB GEz GEw) hb; clear hb; obtain ⟨hcz5_0, hcz5_1, hcz5_2, hcz5_3, hcz5_4, hcz5_5, hcz5_6, hcz5_7⟩ := zd8 BKw; have hcz6_0 := zc0 BKz))
  all_goals (go_wp2_with fail; go_meet; exact ⟨rfl, rfl, ⟨zh BKz⟩, ⟨zh BKw⟩, ⟨zs2 HB GEz GEw⟩⟩)
 case rest =>
  try clear hcz5_0 hcz5_1 hcz5_2 hcz5_3 hcz5_4 hcz5_5 hcz5_6 hcz5_7
  try clear hcz6_0
  clear BKz BKw HB
  obtain ⟨rfl, rfl, BKz, BKw, HB⟩ := hcut
  obtain ⟨hcz5_0, hcz5_1, hcz5_2, hcz5_3, hcz5_4, hcz5_5, hcz5_6, hcz5_7⟩ := zd8 BKw; have hcz6_0 := zc0 BKz
  have H := HC.out
  clear HC A1 A2
  unfold impl_wordOk.d at H
  by_cases q7 : a1_0 = 7
  ·
   subst q7
   simp only [if_true, if_false, reduceIte, Int.reduceEq] at H
   unfold impl_wordOk.e at H
   rcases hF : decide (0 ≤ ra) with _ | _
   ·
    simp only [hF, Bool.false_eq_true, if_false, reduceIte] at H
    obtain rfl := Option.some.inj H
    go_wp2_with fail
    go_ret
    exact ⟨ze, zs2 HB GEz GEw⟩
   ·
    simp only [hF, if_true, reduceIte] at H
    rcases hT : (a1_2.toList == ([] : List UInt8)) with _ | _
    ·
     simp only [hT, Bool.false_eq_true, if_false, reduceIte] at H
     obtain rfl := Option.some.inj H
     go_wp2_with fail
     go_ret
     exact ⟨ze, zs2 HB GEz GEw⟩
    ·
     simp only [hT, if_true, reduceIte] at H
     replace H := zbd H; obtain ⟨bN, AN, H⟩ := H
     rcases bN with _ | _
     ·
      try simp only [if_true, if_false, reduceIte, Bool.false_eq_true, reduceCtorEq] at H
      obtain rfl := Option.some.inj H
      go_wp2_with ((go_at_call 32; (with_reducible refine (impl_isName.calls k a1_3 _ _ AN.out).mono ?_); rintro e w' ⟨rfl, ⟨nd, rfl⟩⟩))
      go_ret
      exact ⟨ze, zs2 HB GEz GEw⟩
     ·
      try simp only [if_true, if_false, reduceIte, Bool.false_eq_true, reduceCtorEq] at H
      go_upto_region 28 with (first | (go_at_call 32; (with_reducible refine (impl_isName.calls k a1_3 _ _ AN.out).mono ?_); rintro e w' ⟨rfl, ⟨nd, rfl⟩⟩))
      try clear h1b h1n
      obtain ⟨hcz5_0, hcz5_1, hcz5_2, hcz5_3, hcz5_4, hcz5_5, hcz5_6, hcz5_7⟩ := zd8 BKw; have hcz6_0 := zc0 BKz
      unfold impl_wordOk.g impl_wordOk.c1 at H
      try simp only [if_true, if_false, reduceIte, Bool.false_eq_true, reduceCtorEq] at H
      replace H := zbd H; obtain ⟨bA4, A4, H⟩ := H
      rcases bA4 with _ | _
      ·
       try simp only [if_true, if_false, reduceIte, Bool.false_eq_true, reduceCtorEq] at H
       try rw [if_neg (by decide)] at H
       obtain rfl := Option.some.inj H
       go_wp2_with (first | (go_at_call 35; (with_reducible refine (impl_number.calls a1_4 _ _ A4.out).mono ?_); rintro e w' ⟨rfl, ⟨nd, rfl⟩⟩))
       go_ret
       exact ⟨ze, zs2 HB GEz GEw⟩
      ·
       try simp only [if_true, if_false, reduceIte, Bool.false_eq_true, reduceCtorEq] at H
       go_upto_region 30 with (first | (go_at_call 35; (with_reducible refine (impl_number.calls a1_4 _ _ A4.out).mono ?_); rintro e w' ⟨rfl, ⟨nd, rfl⟩⟩))
       try clear h1b h1n
       obtain ⟨hcz5_0, hcz5_1, hcz5_2, hcz5_3, hcz5_4, hcz5_5, hcz5_6, hcz5_7⟩ := zd8 BKw; have hcz6_0 := zc0 BKz
       unfold impl_wordOk.c2 at H
       try simp only [if_true, if_false, reduceIte, Bool.false_eq_true, reduceCtorEq] at H
       by_cases h2 : a1_5 = 0
       ·
        rw [if_pos h2] at H
        have h2b : (a1_5 == 0) = true := beq_iff_eq.mpr h2
        have h2n : (a1_5 != 0) = false := by simpa using h2
        clear h2
        go_upto_region 32 with fail
        try clear h1b h1n
        obtain ⟨hcz5_0, hcz5_1, hcz5_2, hcz5_3, hcz5_4, hcz5_5, hcz5_6, hcz5_7⟩ := zd8 BKw; have hcz6_0 := zc0 BKz
        unfold impl_wordOk.c3 at H
        try simp only [if_true, if_false, reduceIte, Bool.false_eq_true, reduceCtorEq] at H
        by_cases h3 : a1_6 = 0
        ·
         rw [if_pos h3] at H
         have h3b : (a1_6 == 0) = true := beq_iff_eq.mpr h3
         have h3n : (a1_6 != 0) = false := by simpa using h3
         clear h3
         go_upto_region 34 with fail
         try clear h1b h1n
         obtain ⟨hcz5_0, hcz5_1, hcz5_2, hcz5_3, hcz5_4, hcz5_5, hcz5_6, hcz5_7⟩ := zd8 BKw; have hcz6_0 := zc0 BKz
         unfold impl_wordOk.c4 at H
         try simp only [if_true, if_false, reduceIte, Bool.false_eq_true, reduceCtorEq] at H
         have AT := zA H
         clear H
         rcases r with _ | _
         ·
          go_wp2_with (first | (go_at_call 36; (with_reducible refine (impl_tubeOk.calls k _ _ l0 _ _ l1_7 _ _ ?side1 ?side2 ?side3 ?side4 AT.out).mono ?_); (case side1 => exact zC HR0 HB); (case side2 => exact HC0.out); (case side3 => exact zC HR1 HB); (case side4 => exact HC1.out); rintro e wn ⟨rfl, hb⟩; replace BKz := zb BKz hb; replace BKw := zb BKw hb; replace HB := zE (zs2 HB GEz GEw) hb; clear hb))
          go_ret
          exact ⟨ze, zs2 HB GEz GEw⟩
         ·
          go_wp2_with (first | (go_at_call 36; (with_reducible refine (impl_tubeOk.calls k _ _ l0 _ _ l1_7 _ _ ?side1 ?side2 ?side3 ?side4 AT.out).mono ?_); (case side1 => exact zC HR0 HB); (case side2 => exact HC0.out); (case side3 => exact zC HR1 HB); (case side4 => exact HC1.out); rintro e wn ⟨rfl, hb⟩; replace BKz := zb BKz hb; replace BKw := zb BKw hb; replace HB := zE (zs2 HB GEz GEw) hb; clear hb))
          go_ret
          exact ⟨ze, zs2 HB GEz GEw⟩
        ·
         rw [if_neg h3] at H
         have h3b : (a1_6 == 0) = false := beq_eq_false_iff_ne.mpr h3
         have h3n : (a1_6 != 0) = true := by simpa using h3
         clear h3
         obtain rfl := Option.some.inj H
         go_wp2_with fail
         go_ret
         exact ⟨ze, zs2 HB GEz GEw⟩
       ·
        rw [if_neg h2] at H
        have h2b : (a1_5 == 0) = false := beq_eq_false_iff_ne.mpr h2
        have h2n : (a1_5 != 0) = true := by simpa using h2
        clear h2
        obtain rfl := Option.some.inj H
        go_wp2_with fail
        go_ret
        exact ⟨ze, zs2 HB GEz GEw⟩
  have q7b : (a1_0 == 7) = false := beq_eq_false_iff_ne.mpr q7
  rw [if_neg q7] at H
  by_cases q8 : a1_0 = 8
  ·
   subst q8
   simp only [if_true, if_false, reduceIte, Int.reduceEq] at H
   unfold impl_wordOk.e at H
   rcases hF : (a1_1.toList == ([] : List UInt8)) with _ | _
   ·
    simp only [hF, Bool.false_eq_true, if_false, reduceIte] at H
    obtain rfl := Option.some.inj H
    go_wp2_with fail
    go_ret
    exact ⟨ze, zs2 HB GEz GEw⟩
   ·
    simp only [hF, if_true, reduceIte] at H
    rcases hT : decide (0 ≤ rb) with _ | _
    ·
     simp only [hT, Bool.false_eq_true, if_false, reduceIte] at H
     obtain rfl := Option.some.inj H
     go_wp2_with fail
     go_ret
     exact ⟨ze, zs2 HB GEz GEw⟩
    ·
     simp only [hT, if_true, reduceIte] at H
     replace H := zbd H; obtain ⟨bN, AN, H⟩ := H
     rcases bN with _ | _
     ·
      try simp only [if_true, if_false, reduceIte, Bool.false_eq_true, reduceCtorEq] at H
      obtain rfl := Option.some.inj H
      go_wp2_with ((go_at_call 32; (with_reducible refine (impl_isName.calls k a1_3 _ _ AN.out).mono ?_); rintro e w' ⟨rfl, ⟨nd, rfl⟩⟩))
      go_ret
      exact ⟨ze, zs2 HB GEz GEw⟩
     ·
      try simp only [if_true, if_false, reduceIte, Bool.false_eq_true, reduceCtorEq] at H
      go_upto_region 28 with (first | (go_at_call 32; (with_reducible refine (impl_isName.calls k a1_3 _ _ AN.out).mono ?_); rintro e w' ⟨rfl, ⟨nd, rfl⟩⟩))
      try clear h1b h1n
      obtain ⟨hcz5_0, hcz5_1, hcz5_2, hcz5_3, hcz5_4, hcz5_5, hcz5_6, hcz5_7⟩ := zd8 BKw; have hcz6_0 := zc0 BKz
      unfold impl_wordOk.g impl_wordOk.c1 at H
      try simp only [if_true, if_false, reduceIte, Bool.false_eq_true, reduceCtorEq] at H
      replace H := zbd H; obtain ⟨bA4, A4, H⟩ := H
      rcases bA4 with _ | _
      ·
       try simp only [if_true, if_false, reduceIte, Bool.false_eq_true, reduceCtorEq] at H
       try rw [if_neg (by decide)] at H
       obtain rfl := Option.some.inj H
       go_wp2_with (first | (go_at_call 35; (with_reducible refine (impl_number.calls a1_4 _ _ A4.out).mono ?_); rintro e w' ⟨rfl, ⟨nd, rfl⟩⟩))
       go_ret
       exact ⟨ze, zs2 HB GEz GEw⟩
      ·
       try simp only [if_true, if_false, reduceIte, Bool.false_eq_true, reduceCtorEq] at H
       go_upto_region 30 with (first | (go_at_call 35; (with_reducible refine (impl_number.calls a1_4 _ _ A4.out).mono ?_); rintro e w' ⟨rfl, ⟨nd, rfl⟩⟩))
       try clear h1b h1n
       obtain ⟨hcz5_0, hcz5_1, hcz5_2, hcz5_3, hcz5_4, hcz5_5, hcz5_6, hcz5_7⟩ := zd8 BKw; have hcz6_0 := zc0 BKz
       unfold impl_wordOk.c2 at H
       try simp only [if_true, if_false, reduceIte, Bool.false_eq_true, reduceCtorEq] at H
       by_cases h2 : a1_5 = 0
       ·
        rw [if_pos h2] at H
        have h2b : (a1_5 == 0) = true := beq_iff_eq.mpr h2
        have h2n : (a1_5 != 0) = false := by simpa using h2
        clear h2
        go_upto_region 32 with fail
        try clear h1b h1n
        obtain ⟨hcz5_0, hcz5_1, hcz5_2, hcz5_3, hcz5_4, hcz5_5, hcz5_6, hcz5_7⟩ := zd8 BKw; have hcz6_0 := zc0 BKz
        unfold impl_wordOk.c3 at H
        try simp only [if_true, if_false, reduceIte, Bool.false_eq_true, reduceCtorEq] at H
        by_cases h3 : a1_6 = 0
        ·
         rw [if_pos h3] at H
         have h3b : (a1_6 == 0) = true := beq_iff_eq.mpr h3
         have h3n : (a1_6 != 0) = false := by simpa using h3
         clear h3
         go_upto_region 34 with fail
         try clear h1b h1n
         obtain ⟨hcz5_0, hcz5_1, hcz5_2, hcz5_3, hcz5_4, hcz5_5, hcz5_6, hcz5_7⟩ := zd8 BKw; have hcz6_0 := zc0 BKz
         unfold impl_wordOk.c4 at H
         try simp only [if_true, if_false, reduceIte, Bool.false_eq_true, reduceCtorEq] at H
         by_cases h4 : (l1_7.length : Int) = 0
         ·
          rw [if_pos h4] at H
          have h4b : ((l1_7.length : Int) == 0) = true := beq_iff_eq.mpr h4
          have h4n : ((l1_7.length : Int) != 0) = false := by simpa using h4
          clear h4
          obtain rfl := Option.some.inj H
          go_wp2_with fail
          go_ret
          exact ⟨ze, zs2 HB GEz GEw⟩
         ·
          rw [if_neg h4] at H
          have h4b : ((l1_7.length : Int) == 0) = false := beq_eq_false_iff_ne.mpr h4
          have h4n : ((l1_7.length : Int) != 0) = true := by simpa using h4
          clear h4
          obtain rfl := Option.some.inj H
          go_wp2_with fail
          go_ret
          exact ⟨ze, zs2 HB GEz GEw⟩
        ·
         rw [if_neg h3] at H
         have h3b : (a1_6 == 0) = false := beq_eq_false_iff_ne.mpr h3
         have h3n : (a1_6 != 0) = true := by simpa using h3
         clear h3
         obtain rfl := Option.some.inj H
         go_wp2_with fail
         go_ret
         exact ⟨ze, zs2 HB GEz GEw⟩
       ·
        rw [if_neg h2] at H
        have h2b : (a1_5 == 0) = false := beq_eq_false_iff_ne.mpr h2
        have h2n : (a1_5 != 0) = true := by simpa using h2
        clear h2
        obtain rfl := Option.some.inj H
        go_wp2_with fail
        go_ret
        exact ⟨ze, zs2 HB GEz GEw⟩
  have q8b : (a1_0 == 8) = false := beq_eq_false_iff_ne.mpr q8
  rw [if_neg q8] at H
  by_cases q9 : a1_0 = 9
  ·
   subst q9
   simp only [if_true, if_false, reduceIte, Int.reduceEq] at H
   unfold impl_wordOk.e at H
   rcases hF : (a1_1.toList == ([] : List UInt8)) with _ | _
   ·
    simp only [hF, Bool.false_eq_true, if_false, reduceIte] at H
    obtain rfl := Option.some.inj H
    go_wp2_with fail
    go_ret
    exact ⟨ze, zs2 HB GEz GEw⟩
   ·
    simp only [hF, if_true, reduceIte] at H
    rcases hT : decide (0 ≤ rb) with _ | _
    ·
     simp only [hT, Bool.false_eq_true, if_false, reduceIte] at H
     obtain rfl := Option.some.inj H
     go_wp2_with fail
     go_ret
     exact ⟨ze, zs2 HB GEz GEw⟩
    ·
     simp only [hT, if_true, reduceIte] at H
     replace H := zbd H; obtain ⟨bN, AN, H⟩ := H
     rcases bN with _ | _
     ·
      try simp only [if_true, if_false, reduceIte, Bool.false_eq_true, reduceCtorEq] at H
      obtain rfl := Option.some.inj H
      go_wp2_with ((go_at_call 32; (with_reducible refine (impl_isName.calls k a1_3 _ _ AN.out).mono ?_); rintro e w' ⟨rfl, ⟨nd, rfl⟩⟩))
      go_ret
      exact ⟨ze, zs2 HB GEz GEw⟩
     ·
      try simp only [if_true, if_false, reduceIte, Bool.false_eq_true, reduceCtorEq] at H
      go_upto_region 28 with (first | (go_at_call 32; (with_reducible refine (impl_isName.calls k a1_3 _ _ AN.out).mono ?_); rintro e w' ⟨rfl, ⟨nd, rfl⟩⟩))
      try clear h1b h1n
      obtain ⟨hcz5_0, hcz5_1, hcz5_2, hcz5_3, hcz5_4, hcz5_5, hcz5_6, hcz5_7⟩ := zd8 BKw; have hcz6_0 := zc0 BKz
      unfold impl_wordOk.g impl_wordOk.c1 at H
      try simp only [if_true, if_false, reduceIte, Bool.false_eq_true, reduceCtorEq] at H
      replace H := zbd H; obtain ⟨bA4, A4, H⟩ := H
      rcases bA4 with _ | _
      ·
       try simp only [if_true, if_false, reduceIte, Bool.false_eq_true, reduceCtorEq] at H
       try rw [if_neg (by decide)] at H
       obtain rfl := Option.some.inj H
       go_wp2_with (first | (go_at_call 35; (with_reducible refine (impl_number.calls a1_4 _ _ A4.out).mono ?_); rintro e w' ⟨rfl, ⟨nd, rfl⟩⟩))
       go_ret
       exact ⟨ze, zs2 HB GEz GEw⟩
      ·
       try simp only [if_true, if_false, reduceIte, Bool.false_eq_true, reduceCtorEq] at H
       go_upto_region 30 with (first | (go_at_call 35; (with_reducible refine (impl_number.calls a1_4 _ _ A4.out).mono ?_); rintro e w' ⟨rfl, ⟨nd, rfl⟩⟩))
       try clear h1b h1n
       obtain ⟨hcz5_0, hcz5_1, hcz5_2, hcz5_3, hcz5_4, hcz5_5, hcz5_6, hcz5_7⟩ := zd8 BKw; have hcz6_0 := zc0 BKz
       unfold impl_wordOk.c2 at H
       try simp only [if_true, if_false, reduceIte, Bool.false_eq_true, reduceCtorEq] at H
       by_cases h2 : a1_5 = 0
       ·
        rw [if_pos h2] at H
        have h2b : (a1_5 == 0) = true := beq_iff_eq.mpr h2
        have h2n : (a1_5 != 0) = false := by simpa using h2
        clear h2
        go_upto_region 32 with fail
        try clear h1b h1n
        obtain ⟨hcz5_0, hcz5_1, hcz5_2, hcz5_3, hcz5_4, hcz5_5, hcz5_6, hcz5_7⟩ := zd8 BKw; have hcz6_0 := zc0 BKz
        unfold impl_wordOk.c3 at H
        try simp only [if_true, if_false, reduceIte, Bool.false_eq_true, reduceCtorEq] at H
        by_cases h3 : a1_6 = 0
        ·
         rw [if_pos h3] at H
         have h3b : (a1_6 == 0) = true := beq_iff_eq.mpr h3
         have h3n : (a1_6 != 0) = false := by simpa using h3
         clear h3
         go_upto_region 34 with fail
         try clear h1b h1n
         obtain ⟨hcz5_0, hcz5_1, hcz5_2, hcz5_3, hcz5_4, hcz5_5, hcz5_6, hcz5_7⟩ := zd8 BKw; have hcz6_0 := zc0 BKz
         unfold impl_wordOk.c4 at H
         try simp only [if_true, if_false, reduceIte, Bool.false_eq_true, reduceCtorEq] at H
         by_cases h4 : (l1_7.length : Int) = 0
         ·
          rw [if_pos h4] at H
          have h4b : ((l1_7.length : Int) == 0) = true := beq_iff_eq.mpr h4
          have h4n : ((l1_7.length : Int) != 0) = false := by simpa using h4
          clear h4
          obtain rfl := Option.some.inj H
          go_wp2_with fail
          go_ret
          exact ⟨ze, zs2 HB GEz GEw⟩
         ·
          rw [if_neg h4] at H
          have h4b : ((l1_7.length : Int) == 0) = false := beq_eq_false_iff_ne.mpr h4
          have h4n : ((l1_7.length : Int) != 0) = true := by simpa using h4
          clear h4
          obtain rfl := Option.some.inj H
          go_wp2_with fail
          go_ret
          exact ⟨ze, zs2 HB GEz GEw⟩
        ·
         rw [if_neg h3] at H
         have h3b : (a1_6 == 0) = false := beq_eq_false_iff_ne.mpr h3
         have h3n : (a1_6 != 0) = true := by simpa using h3
         clear h3
         obtain rfl := Option.some.inj H
         go_wp2_with fail
         go_ret
         exact ⟨ze, zs2 HB GEz GEw⟩
       ·
        rw [if_neg h2] at H
        have h2b : (a1_5 == 0) = false := beq_eq_false_iff_ne.mpr h2
        have h2n : (a1_5 != 0) = true := by simpa using h2
        clear h2
        obtain rfl := Option.some.inj H
        go_wp2_with fail
        go_ret
        exact ⟨ze, zs2 HB GEz GEw⟩
  have q9b : (a1_0 == 9) = false := beq_eq_false_iff_ne.mpr q9
  rw [if_neg q9] at H
  by_cases q1 : a1_0 = 1
  ·
   subst q1
   simp only [if_true, if_false, reduceIte, Int.reduceEq] at H
   unfold impl_wordOk.e at H
   rcases hF : decide (0 ≤ ra) with _ | _
   ·
    simp only [hF, Bool.false_eq_true, if_false, reduceIte] at H
    obtain rfl := Option.some.inj H
    go_wp2_with fail
    go_ret
    exact ⟨ze, zs2 HB GEz GEw⟩
   ·
    simp only [hF, if_true, reduceIte] at H
    rcases hT : decide (0 ≤ rb) with _ | _
    ·
     simp only [hT, Bool.false_eq_true, if_false, reduceIte] at H
     obtain rfl := Option.some.inj H
     go_wp2_with fail
     go_ret
     exact ⟨ze, zs2 HB GEz GEw⟩
    ·
     simp only [hT, if_true, reduceIte] at H
     replace H := zbd H; obtain ⟨bN, AN, H⟩ := H
     rcases bN with _ | _
     ·
      try simp only [if_true, if_false, reduceIte, Bool.false_eq_true, reduceCtorEq] at H
      obtain rfl := Option.some.inj H
      go_wp2_with ((go_at_call 32; (with_reducible refine (impl_isName.calls k a1_3 _ _ AN.out).mono ?_); rintro e w' ⟨rfl, ⟨nd, rfl⟩⟩))
      go_ret
      exact ⟨ze, zs2 HB GEz GEw⟩
     ·
      try simp only [if_true, if_false, reduceIte, Bool.false_eq_true, reduceCtorEq] at H
      go_upto_region 28 with (first | (go_at_call 32; (with_reducible refine (impl_isName.calls k a1_3 _ _ AN.out).mono ?_); rintro e w' ⟨rfl, ⟨nd, rfl⟩⟩))
      try clear h1b h1n
      obtain ⟨hcz5_0, hcz5_1, hcz5_2, hcz5_3, hcz5_4, hcz5_5, hcz5_6, hcz5_7⟩ := zd8 BKw; have hcz6_0 := zc0 BKz
      unfold impl_wordOk.g impl_wordOk.c1 at H
      try simp only [if_true, if_false, reduceIte, Bool.false_eq_true, reduceCtorEq] at H
      replace H := zbd H; obtain ⟨bA4, A4, H⟩ := H
      rcases bA4 with _ | _
      ·
       try simp only [if_true, if_false, reduceIte, Bool.false_eq_true, reduceCtorEq] at H
       try rw [if_neg (by decide)] at H
       obtain rfl := Option.some.inj H
       go_wp2_with (first | (go_at_call 35; (with_reducible refine (impl_number.calls a1_4 _ _ A4.out).mono ?_); rintro e w' ⟨rfl, ⟨nd, rfl⟩⟩))
       go_ret
       exact ⟨ze, zs2 HB GEz GEw⟩
      ·
       try simp only [if_true, if_false, reduceIte, Bool.false_eq_true, reduceCtorEq] at H
       go_upto_region 30 with (first | (go_at_call 35; (with_reducible refine (impl_number.calls a1_4 _ _ A4.out).mono ?_); rintro e w' ⟨rfl, ⟨nd, rfl⟩⟩))
       try clear h1b h1n
       obtain ⟨hcz5_0, hcz5_1, hcz5_2, hcz5_3, hcz5_4, hcz5_5, hcz5_6, hcz5_7⟩ := zd8 BKw; have hcz6_0 := zc0 BKz
       unfold impl_wordOk.c2 at H
       try simp only [if_true, if_false, reduceIte, Bool.false_eq_true, reduceCtorEq] at H
       by_cases h2 : a1_5 = 0
       ·
        rw [if_pos h2] at H
        have h2b : (a1_5 == 0) = true := beq_iff_eq.mpr h2
        have h2n : (a1_5 != 0) = false := by simpa using h2
        clear h2
        go_upto_region 32 with fail
        try clear h1b h1n
        obtain ⟨hcz5_0, hcz5_1, hcz5_2, hcz5_3, hcz5_4, hcz5_5, hcz5_6, hcz5_7⟩ := zd8 BKw; have hcz6_0 := zc0 BKz
        unfold impl_wordOk.c3 at H
        try simp only [if_true, if_false, reduceIte, Bool.false_eq_true, reduceCtorEq] at H
        by_cases h3 : a1_6 = 0
        ·
         rw [if_pos h3] at H
         have h3b : (a1_6 == 0) = true := beq_iff_eq.mpr h3
         have h3n : (a1_6 != 0) = false := by simpa using h3
         clear h3
         go_upto_region 34 with fail
         try clear h1b h1n
         obtain ⟨hcz5_0, hcz5_1, hcz5_2, hcz5_3, hcz5_4, hcz5_5, hcz5_6, hcz5_7⟩ := zd8 BKw; have hcz6_0 := zc0 BKz
         unfold impl_wordOk.c4 at H
         try simp only [if_true, if_false, reduceIte, Bool.false_eq_true, reduceCtorEq] at H
         have AT := zA H
         clear H
         rcases r with _ | _
         ·
          go_wp2_with (first | (go_at_call 36; (with_reducible refine (impl_tubeOk.calls k _ _ l0 _ _ l1_7 _ _ ?side1 ?side2 ?side3 ?side4 AT.out).mono ?_); (case side1 => exact zC HR0 HB); (case side2 => exact HC0.out); (case side3 => exact zC HR1 HB); (case side4 => exact HC1.out); rintro e wn ⟨rfl, hb⟩; replace BKz := zb BKz hb; replace BKw := zb BKw hb; replace HB := zE (zs2 HB GEz GEw) hb; clear hb))
          go_ret
          exact ⟨ze, zs2 HB GEz GEw⟩
         ·
          go_wp2_with (first | (go_at_call 36; (with_reducible refine (impl_tubeOk.calls k _ _ l0 _ _ l1_7 _ _ ?side1 ?side2 ?side3 ?side4 AT.out).mono ?_); (case side1 => exact zC HR0 HB); (case side2 => exact HC0.out); (case side3 => exact zC HR1 HB); (case side4 => exact HC1.out); rintro e wn ⟨rfl, hb⟩; replace BKz := zb BKz hb; replace BKw := zb BKw hb; replace HB := zE (zs2 HB GEz GEw) hb; clear hb))
          go_ret
          exact ⟨ze, zs2 HB GEz GEw⟩
        ·
         rw [if_neg h3] at H
         have h3b : (a1_6 == 0) = false := beq_eq_false_iff_ne.mpr h3
         have h3n : (a1_6 != 0) = true := by simpa using h3
         clear h3
         obtain rfl := Option.some.inj H
         go_wp2_with fail
         go_ret
         exact ⟨ze, zs2 HB GEz GEw⟩
       ·
        rw [if_neg h2] at H
        have h2b : (a1_5 == 0) = false := beq_eq_false_iff_ne.mpr h2
        have h2n : (a1_5 != 0) = true := by simpa using h2
        clear h2
        obtain rfl := Option.some.inj H
        go_wp2_with fail
        go_ret
        exact ⟨ze, zs2 HB GEz GEw⟩
  have q1b : (a1_0 == 1) = false := beq_eq_false_iff_ne.mpr q1
  by_cases q2 : a1_0 = 2
  ·
   subst q2
   simp only [if_true, if_false, reduceIte, Int.reduceEq] at H
   unfold impl_wordOk.e at H
   rcases hF : decide (0 ≤ ra) with _ | _
   ·
    simp only [hF, Bool.false_eq_true, if_false, reduceIte] at H
    obtain rfl := Option.some.inj H
    go_wp2_with fail
    go_ret
    exact ⟨ze, zs2 HB GEz GEw⟩
   ·
    simp only [hF, if_true, reduceIte] at H
    rcases hT : decide (0 ≤ rb) with _ | _
    ·
     simp only [hT, Bool.false_eq_true, if_false, reduceIte] at H
     obtain rfl := Option.some.inj H
     go_wp2_with fail
     go_ret
     exact ⟨ze, zs2 HB GEz GEw⟩
    ·
     simp only [hT, if_true, reduceIte] at H
     replace H := zbd H; obtain ⟨bN, AN, H⟩ := H
     rcases bN with _ | _
     ·
      try simp only [if_true, if_false, reduceIte, Bool.false_eq_true, reduceCtorEq] at H
      obtain rfl := Option.some.inj H
      go_wp2_with ((go_at_call 32; (with_reducible refine (impl_isName.calls k a1_3 _ _ AN.out).mono ?_); rintro e w' ⟨rfl, ⟨nd, rfl⟩⟩))
      go_ret
      exact ⟨ze, zs2 HB GEz GEw⟩
     ·
      try simp only [if_true, if_false, reduceIte, Bool.false_eq_true, reduceCtorEq] at H
      go_upto_region 28 with (first | (go_at_call 32; (with_reducible refine (impl_isName.calls k a1_3 _ _ AN.out).mono ?_); rintro e w' ⟨rfl, ⟨nd, rfl⟩⟩))
      try clear h1b h1n
      obtain ⟨hcz5_0, hcz5_1, hcz5_2, hcz5_3, hcz5_4, hcz5_5, hcz5_6, hcz5_7⟩ := zd8 BKw; have hcz6_0 := zc0 BKz
      unfold impl_wordOk.g impl_wordOk.c1 at H
      try simp only [if_true, if_false, reduceIte, Bool.false_eq_true, reduceCtorEq] at H
      replace H := zbd H; obtain ⟨bA4, A4, H⟩ := H
      rcases bA4 with _ | _
      ·
       try simp only [if_true, if_false, reduceIte, Bool.false_eq_true, reduceCtorEq] at H
       try rw [if_neg (by decide)] at H
       obtain rfl := Option.some.inj H
       go_wp2_with (first | (go_at_call 35; (with_reducible refine (impl_number.calls a1_4 _ _ A4.out).mono ?_); rintro e w' ⟨rfl, ⟨nd, rfl⟩⟩))
       go_ret
       exact ⟨ze, zs2 HB GEz GEw⟩
      ·
       try simp only [if_true, if_false, reduceIte, Bool.false_eq_true, reduceCtorEq] at H
       go_upto_region 30 with (first | (go_at_call 35; (with_reducible refine (impl_number.calls a1_4 _ _ A4.out).mono ?_); rintro e w' ⟨rfl, ⟨nd, rfl⟩⟩))
       try clear h1b h1n
       obtain ⟨hcz5_0, hcz5_1, hcz5_2, hcz5_3, hcz5_4, hcz5_5, hcz5_6, hcz5_7⟩ := zd8 BKw; have hcz6_0 := zc0 BKz
       unfold impl_wordOk.c2 at H
       try simp only [if_true, if_false, reduceIte, Bool.false_eq_true, reduceCtorEq] at H
       by_cases h2 : a1_5 = 0
       ·
        rw [if_pos h2] at H
        have h2b : (a1_5 == 0) = true := beq_iff_eq.mpr h2
        have h2n : (a1_5 != 0) = false := by simpa using h2
        clear h2
        go_upto_region 32 with fail
        try clear h1b h1n
        obtain ⟨hcz5_0, hcz5_1, hcz5_2, hcz5_3, hcz5_4, hcz5_5, hcz5_6, hcz5_7⟩ := zd8 BKw; have hcz6_0 := zc0 BKz
        unfold impl_wordOk.c3 at H
        try simp only [if_true, if_false, reduceIte, Bool.false_eq_true, reduceCtorEq] at H
        by_cases h3 : a1_6 = 0
        ·
         rw [if_pos h3] at H
         have h3b : (a1_6 == 0) = true := beq_iff_eq.mpr h3
         have h3n : (a1_6 != 0) = false := by simpa using h3
         clear h3
         go_upto_region 34 with fail
         try clear h1b h1n
         obtain ⟨hcz5_0, hcz5_1, hcz5_2, hcz5_3, hcz5_4, hcz5_5, hcz5_6, hcz5_7⟩ := zd8 BKw; have hcz6_0 := zc0 BKz
         unfold impl_wordOk.c4 at H
         try simp only [if_true, if_false, reduceIte, Bool.false_eq_true, reduceCtorEq] at H
         by_cases h4 : (l1_7.length : Int) = 0
         ·
          rw [if_pos h4] at H
          have h4b : ((l1_7.length : Int) == 0) = true := beq_iff_eq.mpr h4
          have h4n : ((l1_7.length : Int) != 0) = false := by simpa using h4
          clear h4
          obtain rfl := Option.some.inj H
          go_wp2_with fail
          go_ret
          exact ⟨ze, zs2 HB GEz GEw⟩
         ·
          rw [if_neg h4] at H
          have h4b : ((l1_7.length : Int) == 0) = false := beq_eq_false_iff_ne.mpr h4
          have h4n : ((l1_7.length : Int) != 0) = true := by simpa using h4
          clear h4
          obtain rfl := Option.some.inj H
          go_wp2_with fail
          go_ret
          exact ⟨ze, zs2 HB GEz GEw⟩
        ·
         rw [if_neg h3] at H
         have h3b : (a1_6 == 0) = false := beq_eq_false_iff_ne.mpr h3
         have h3n : (a1_6 != 0) = true := by simpa using h3
         clear h3
         obtain rfl := Option.some.inj H
         go_wp2_with fail
         go_ret
         exact ⟨ze, zs2 HB GEz GEw⟩
       ·
        rw [if_neg h2] at H
        have h2b : (a1_5 == 0) = false := beq_eq_false_iff_ne.mpr h2
        have h2n : (a1_5 != 0) = true := by simpa using h2
        clear h2
        obtain rfl := Option.some.inj H
        go_wp2_with fail
        go_ret
        exact ⟨ze, zs2 HB GEz GEw⟩
  have q2b : (a1_0 == 2) = false := beq_eq_false_iff_ne.mpr q2
  by_cases q3 : a1_0 = 3
  ·
   subst q3
   simp only [if_true, if_false, reduceIte, Int.reduceEq] at H
   unfold impl_wordOk.e at H
   rcases hF : decide (0 ≤ ra) with _ | _
   ·
    simp only [hF, Bool.false_eq_true, if_false, reduceIte] at H
    obtain rfl := Option.some.inj H
    go_wp2_with fail
    go_ret
    exact ⟨ze, zs2 HB GEz GEw⟩
   ·
    simp only [hF, if_true, reduceIte] at H
    rcases hT : decide (0 ≤ rb) with _ | _
    ·
     simp only [hT, Bool.false_eq_true, if_false, reduceIte] at H
     obtain rfl := Option.some.inj H
     go_wp2_with fail
     go_ret
     exact ⟨ze, zs2 HB GEz GEw⟩
    ·
     simp only [hT, if_true, reduceIte] at H
     replace H := zbd H; obtain ⟨bN, AN, H⟩ := H
     rcases bN with _ | _
     ·
      try simp only [if_true, if_false, reduceIte, Bool.false_eq_true, reduceCtorEq] at H
      obtain rfl := Option.some.inj H
      go_wp2_with ((go_at_call 32; (with_reducible refine (impl_isName.calls k a1_3 _ _ AN.out).mono ?_); rintro e w' ⟨rfl, ⟨nd, rfl⟩⟩))
      go_ret
      exact ⟨ze, zs2 HB GEz GEw⟩
     ·
      try simp only [if_true, if_false, reduceIte, Bool.false_eq_true, reduceCtorEq] at H
      go_upto_region 28 with (first | (go_at_call 32; (with_reducible refine (impl_isName.calls k a1_3 _ _ AN.out).mono ?_); rintro e w' ⟨rfl, ⟨nd, rfl⟩⟩))
      try clear h1b h1n
      obtain ⟨hcz5_0, hcz5_1, hcz5_2, hcz5_3, hcz5_4, hcz5_5, hcz5_6, hcz5_7⟩ := zd8 BKw; have hcz6_0 := zc0 BKz
      unfold impl_wordOk.g impl_wordOk.c1 at H
      try simp only [if_true, if_false, reduceIte, Bool.false_eq_true, reduceCtorEq] at H
      replace H := zbd H; obtain ⟨bA4, A4, H⟩ := H
      rcases bA4 with _ | _
      ·
       try simp only [if_true, if_false, reduceIte, Bool.false_eq_true, reduceCtorEq] at H
       try rw [if_neg (by decide)] at H
       obtain rfl := Option.some.inj H
       go_wp2_with (first | (go_at_call 35; (with_reducible refine (impl_number.calls a1_4 _ _ A4.out).mono ?_); rintro e w' ⟨rfl, ⟨nd, rfl⟩⟩))
       go_ret
       exact ⟨ze, zs2 HB GEz GEw⟩
      ·
       try simp only [if_true, if_false, reduceIte, Bool.false_eq_true, reduceCtorEq] at H
       go_upto_region 30 with (first | (go_at_call 35; (with_reducible refine (impl_number.calls a1_4 _ _ A4.out).mono ?_); rintro e w' ⟨rfl, ⟨nd, rfl⟩⟩))
       try clear h1b h1n
       obtain ⟨hcz5_0, hcz5_1, hcz5_2, hcz5_3, hcz5_4, hcz5_5, hcz5_6, hcz5_7⟩ := zd8 BKw; have hcz6_0 := zc0 BKz
       unfold impl_wordOk.c2 at H
       try simp only [if_true, if_false, reduceIte, Bool.false_eq_true, reduceCtorEq] at H
       by_cases h2 : a1_5 = 0
       ·
        rw [if_pos h2] at H
        have h2b : (a1_5 == 0) = true := beq_iff_eq.mpr h2
        have h2n : (a1_5 != 0) = false := by simpa using h2
        clear h2
        go_upto_region 32 with fail
        try clear h1b h1n
        obtain ⟨hcz5_0, hcz5_1, hcz5_2, hcz5_3, hcz5_4, hcz5_5, hcz5_6, hcz5_7⟩ := zd8 BKw; have hcz6_0 := zc0 BKz
        unfold impl_wordOk.c3 at H
        try simp only [if_true, if_false, reduceIte, Bool.false_eq_true, reduceCtorEq] at H
        by_cases h3 : a1_6 = 0
        ·
         rw [if_pos h3] at H
         have h3b : (a1_6 == 0) = true := beq_iff_eq.mpr h3
         have h3n : (a1_6 != 0) = false := by simpa using h3
         clear h3
         go_upto_region 34 with fail
         try clear h1b h1n
         obtain ⟨hcz5_0, hcz5_1, hcz5_2, hcz5_3, hcz5_4, hcz5_5, hcz5_6, hcz5_7⟩ := zd8 BKw; have hcz6_0 := zc0 BKz
         unfold impl_wordOk.c4 at H
         try simp only [if_true, if_false, reduceIte, Bool.false_eq_true, reduceCtorEq] at H
         by_cases h4 : (l1_7.length : Int) = 0
         ·
          rw [if_pos h4] at H
          have h4b : ((l1_7.length : Int) == 0) = true := beq_iff_eq.mpr h4
          have h4n : ((l1_7.length : Int) != 0) = false := by simpa using h4
          clear h4
          obtain rfl := Option.some.inj H
          go_wp2_with fail
          go_ret
          exact ⟨ze, zs2 HB GEz GEw⟩
         ·
          rw [if_neg h4] at H
          have h4b : ((l1_7.length : Int) == 0) = false := beq_eq_false_iff_ne.mpr h4
          have h4n : ((l1_7.length : Int) != 0) = true := by simpa using h4
          clear h4
          obtain rfl := Option.some.inj H
          go_wp2_with fail
          go_ret
          exact ⟨ze, zs2 HB GEz GEw⟩
        ·
         rw [if_neg h3] at H
         have h3b : (a1_6 == 0) = false := beq_eq_false_iff_ne.mpr h3
         have h3n : (a1_6 != 0) = true := by simpa using h3
         clear h3
         obtain rfl := Option.some.inj H
         go_wp2_with fail
         go_ret
         exact ⟨ze, zs2 HB GEz GEw⟩
       ·
        rw [if_neg h2] at H
        have h2b : (a1_5 == 0) = false := beq_eq_false_iff_ne.mpr h2
        have h2n : (a1_5 != 0) = true := by simpa using h2
        clear h2
        obtain rfl := Option.some.inj H
        go_wp2_with fail
        go_ret
        exact ⟨ze, zs2 HB GEz GEw⟩
  have q3b : (a1_0 == 3) = false := beq_eq_false_iff_ne.mpr q3
  by_cases q4 : a1_0 = 4
  ·
   subst q4
   simp only [if_true, if_false, reduceIte, Int.reduceEq] at H
   unfold impl_wordOk.e at H
   rcases hF : decide (0 ≤ ra) with _ | _
   ·
    simp only [hF, Bool.false_eq_true, if_false, reduceIte] at H
    obtain rfl := Option.some.inj H
    go_wp2_with fail
    go_ret
    exact ⟨ze, zs2 HB GEz GEw⟩
   ·
    simp only [hF, if_true, reduceIte] at H
    rcases hT : decide (0 ≤ rb) with _ | _
    ·
     simp only [hT, Bool.false_eq_true, if_false, reduceIte] at H
     obtain rfl := Option.some.inj H
     go_wp2_with fail
     go_ret
     exact ⟨ze, zs2 HB GEz GEw⟩
    ·
     simp only [hT, if_true, reduceIte] at H
     replace H := zbd H; obtain ⟨bN, AN, H⟩ := H
     rcases bN with _ | _
     ·
      try simp only [if_true, if_false, reduceIte, Bool.false_eq_true, reduceCtorEq] at H
      obtain rfl := Option.some.inj H
      go_wp2_with ((go_at_call 32; (with_reducible refine (impl_isName.calls k a1_3 _ _ AN.out).mono ?_); rintro e w' ⟨rfl, ⟨nd, rfl⟩⟩))
      go_ret
      exact ⟨ze, zs2 HB GEz GEw⟩
     ·
      try simp only [if_true, if_false, reduceIte, Bool.false_eq_true, reduceCtorEq] at H
      go_upto_region 28 with (first | (go_at_call 32; (with_reducible refine (impl_isName.calls k a1_3 _ _ AN.out).mono ?_); rintro e w' ⟨rfl, ⟨nd, rfl⟩⟩))
      try clear h1b h1n
      obtain ⟨hcz5_0, hcz5_1, hcz5_2, hcz5_3, hcz5_4, hcz5_5, hcz5_6, hcz5_7⟩ := zd8 BKw; have hcz6_0 := zc0 BKz
      unfold impl_wordOk.g impl_wordOk.c1 at H
      try simp only [if_true, if_false, reduceIte, Bool.false_eq_true, reduceCtorEq] at H
      replace H := zbd H; obtain ⟨bA4, A4, H⟩ := H
      rcases bA4 with _ | _
      ·
       try simp only [if_true, if_false, reduceIte, Bool.false_eq_true, reduceCtorEq] at H
       try simp only [if_true, if_false, reduceIte, Bool.false_eq_true, reduceCtorEq] at H
       by_cases h1 : a1_4 = 0
       ·
        rw [if_pos h1] at H
        have h1b : (a1_4 == 0) = true := beq_iff_eq.mpr h1
        have h1n : (a1_4 != 0) = false := by simpa using h1
        clear h1
        go_upto_region 30 with (first | (go_at_call 35; (with_reducible refine (impl_number.calls a1_4 _ _ A4.out).mono ?_); rintro e w' ⟨rfl, ⟨nd, rfl⟩⟩))
        try clear h1b h1n
        obtain ⟨hcz5_0, hcz5_1, hcz5_2, hcz5_3, hcz5_4, hcz5_5, hcz5_6, hcz5_7⟩ := zd8 BKw; have hcz6_0 := zc0 BKz
        unfold impl_wordOk.c2 at H
        try simp only [if_true, if_false, reduceIte, Bool.false_eq_true, reduceCtorEq] at H
        replace H := zbd H; obtain ⟨bA5, A5, H⟩ := H
        rcases bA5 with _ | _
        ·
         try simp only [if_true, if_false, reduceIte, Bool.false_eq_true, reduceCtorEq] at H
         obtain rfl := Option.some.inj H
         go_wp2_with (first | (go_at_call 35; (with_reducible refine (impl_number.calls a1_5 _ _ A5.out).mono ?_); rintro e w' ⟨rfl, ⟨nd, rfl⟩⟩))
         go_ret
         exact ⟨ze, zs2 HB GEz GEw⟩
        ·
         try simp only [if_true, if_false, reduceIte, Bool.false_eq_true, reduceCtorEq] at H
         by_cases h2 : a1_5 < a1_4
         ·
          rw [if_pos h2] at H
          have h2b : decide (a1_5 < a1_4) = true := decide_eq_true h2
          clear h2
          obtain rfl := Option.some.inj H
          go_wp2_with (first | (go_at_call 35; (with_reducible refine (impl_number.calls a1_5 _ _ A5.out).mono ?_); rintro e w' ⟨rfl, ⟨nd, rfl⟩⟩))
          go_ret
          exact ⟨ze, zs2 HB GEz GEw⟩
         ·
          rw [if_neg h2] at H
          have h2b : decide (a1_5 < a1_4) = false := decide_eq_false h2
          clear h2
          go_upto_region 32 with (first | (go_at_call 35; (with_reducible refine (impl_number.calls a1_5 _ _ A5.out).mono ?_); rintro e w' ⟨rfl, ⟨nd, rfl⟩⟩))
          try clear h1b h1n
          obtain ⟨hcz5_0, hcz5_1, hcz5_2, hcz5_3, hcz5_4, hcz5_5, hcz5_6, hcz5_7⟩ := zd8 BKw; have hcz6_0 := zc0 BKz
          unfold impl_wordOk.c3 at H
          try simp only [if_true, if_false, reduceIte, Bool.false_eq_true, reduceCtorEq] at H
          by_cases h3 : a1_6 = 0
          ·
           rw [if_pos h3] at H
           have h3b : (a1_6 == 0) = true := beq_iff_eq.mpr h3
           have h3n : (a1_6 != 0) = false := by simpa using h3
           clear h3
           go_upto_region 34 with fail
           try clear h1b h1n
           obtain ⟨hcz5_0, hcz5_1, hcz5_2, hcz5_3, hcz5_4, hcz5_5, hcz5_6, hcz5_7⟩ := zd8 BKw; have hcz6_0 := zc0 BKz
           unfold impl_wordOk.c4 at H
           try simp only [if_true, if_false, reduceIte, Bool.false_eq_true, reduceCtorEq] at H
           by_cases h4 : (l1_7.length : Int) = 0
           ·
            rw [if_pos h4] at H
            have h4b : ((l1_7.length : Int) == 0) = true := beq_iff_eq.mpr h4
            have h4n : ((l1_7.length : Int) != 0) = false := by simpa using h4
            clear h4
            obtain rfl := Option.some.inj H
            go_wp2_with fail
            go_ret
            exact ⟨ze, zs2 HB GEz GEw⟩
           ·
            rw [if_neg h4] at H
            have h4b : ((l1_7.length : Int) == 0) = false := beq_eq_false_iff_ne.mpr h4
            have h4n : ((l1_7.length : Int) != 0) = true := by simpa using h4
            clear h4
            obtain rfl := Option.some.inj H
            go_wp2_with fail
            go_ret
            exact ⟨ze, zs2 HB GEz GEw⟩
          ·
           rw [if_neg h3] at H
           have h3b : (a1_6 == 0) = false := beq_eq_false_iff_ne.mpr h3
           have h3n : (a1_6 != 0) = true := by simpa using h3
           clear h3
           obtain rfl := Option.some.inj H
           go_wp2_with fail
           go_ret
           exact ⟨ze, zs2 HB GEz GEw⟩
       ·
        rw [if_neg h1] at H
        have h1b : (a1_4 == 0) = false := beq_eq_false_iff_ne.mpr h1
        have h1n : (a1_4 != 0) = true := by simpa using h1
        clear h1
        obtain rfl := Option.some.inj H
        go_wp2_with (first | (go_at_call 35; (with_reducible refine (impl_number.calls a1_4 _ _ A4.out).mono ?_); rintro e w' ⟨rfl, ⟨nd, rfl⟩⟩))
        go_ret
        exact ⟨ze, zs2 HB GEz GEw⟩
      ·
       try simp only [if_true, if_false, reduceIte, Bool.false_eq_true, reduceCtorEq] at H
       go_upto_region 30 with (first | (go_at_call 35; (with_reducible refine (impl_number.calls a1_4 _ _ A4.out).mono ?_); rintro e w' ⟨rfl, ⟨nd, rfl⟩⟩))
       try clear h1b h1n
       obtain ⟨hcz5_0, hcz5_1, hcz5_2, hcz5_3, hcz5_4, hcz5_5, hcz5_6, hcz5_7⟩ := zd8 BKw; have hcz6_0 := zc0 BKz
       unfold impl_wordOk.c2 at H
       try simp only [if_true, if_false, reduceIte, Bool.false_eq_true, reduceCtorEq] at H
       replace H := zbd H; obtain ⟨bA5, A5, H⟩ := H
       rcases bA5 with _ | _
       ·
        try simp only [if_true, if_false, reduceIte, Bool.false_eq_true, reduceCtorEq] at H
        obtain rfl := Option.some.inj H
        go_wp2_with (first | (go_at_call 35; (with_reducible refine (impl_number.calls a1_5 _ _ A5.out).mono ?_); rintro e w' ⟨rfl, ⟨nd, rfl⟩⟩))
        go_ret
        exact ⟨ze, zs2 HB GEz GEw⟩
       ·
        try simp only [if_true, if_false, reduceIte, Bool.false_eq_true, reduceCtorEq] at H
        by_cases h2 : a1_5 < a1_4
        ·
         rw [if_pos h2] at H
         have h2b : decide (a1_5 < a1_4) = true := decide_eq_true h2
         clear h2
         obtain rfl := Option.some.inj H
         go_wp2_with (first | (go_at_call 35; (with_reducible refine (impl_number.calls a1_5 _ _ A5.out).mono ?_); rintro e w' ⟨rfl, ⟨nd, rfl⟩⟩))
         go_ret
         exact ⟨ze, zs2 HB GEz GEw⟩
        ·
         rw [if_neg h2] at H
         have h2b : decide (a1_5 < a1_4) = false := decide_eq_false h2
         clear h2
         go_upto_region 32 with (first | (go_at_call 35; (with_reducible refine (impl_number.calls a1_5 _ _ A5.out).mono ?_); rintro e w' ⟨rfl, ⟨nd, rfl⟩⟩))
         try clear h1b h1n
         obtain ⟨hcz5_0, hcz5_1, hcz5_2, hcz5_3, hcz5_4, hcz5_5, hcz5_6, hcz5_7⟩ := zd8 BKw; have hcz6_0 := zc0 BKz
         unfold impl_wordOk.c3 at H
         try simp only [if_true, if_false, reduceIte, Bool.false_eq_true, reduceCtorEq] at H
         by_cases h3 : a1_6 = 0
         ·
          rw [if_pos h3] at H
          have h3b : (a1_6 == 0) = true := beq_iff_eq.mpr h3
          have h3n : (a1_6 != 0) = false := by simpa using h3
          clear h3
          go_upto_region 34 with fail
          try clear h1b h1n
          obtain ⟨hcz5_0, hcz5_1, hcz5_2, hcz5_3, hcz5_4, hcz5_5, hcz5_6, hcz5_7⟩ := zd8 BKw; have hcz6_0 := zc0 BKz
          unfold impl_wordOk.c4 at H
          try simp only [if_true, if_false, reduceIte, Bool.false_eq_true, reduceCtorEq] at H
          by_cases h4 : (l1_7.length : Int) = 0
          ·
           rw [if_pos h4] at H
           have h4b : ((l1_7.length : Int) == 0) = true := beq_iff_eq.mpr h4
           have h4n : ((l1_7.length : Int) != 0) = false := by simpa using h4
           clear h4
           obtain rfl := Option.some.inj H
           go_wp2_with fail
           go_ret
           exact ⟨ze, zs2 HB GEz GEw⟩
          ·
           rw [if_neg h4] at H
           have h4b : ((l1_7.length : Int) == 0) = false := beq_eq_false_iff_ne.mpr h4
           have h4n : ((l1_7.length : Int) != 0) = true := by simpa using h4
           clear h4
           obtain rfl := Option.some.inj H
           go_wp2_with fail
           go_ret
           exact ⟨ze, zs2 HB GEz GEw⟩
         ·
          rw [if_neg h3] at H
          have h3b : (a1_6 == 0) = false := beq_eq_false_iff_ne.mpr h3
          have h3n : (a1_6 != 0) = true := by simpa using h3
          clear h3
          obtain rfl := Option.some.inj H
          go_wp2_with fail
          go_ret
          exact ⟨ze, zs2 HB GEz GEw⟩
  have q4b : (a1_0 == 4) = false := beq_eq_false_iff_ne.mpr q4
  by_cases q5 : a1_0 = 5
  ·
   subst q5
   simp only [if_true, if_false, reduceIte, Int.reduceEq] at H
   unfold impl_wordOk.e at H
   rcases hF : decide (0 ≤ ra) with _ | _
   ·
    simp only [hF, Bool.false_eq_true, if_false, reduceIte] at H
    obtain rfl := Option.some.inj H
    go_wp2_with fail
    go_ret
    exact ⟨ze, zs2 HB GEz GEw⟩
   ·
    simp only [hF, if_true, reduceIte] at H
    rcases hT : decide (0 ≤ rb) with _ | _
    ·
     simp only [hT, Bool.false_eq_true, if_false, reduceIte] at H
     obtain rfl := Option.some.inj H
     go_wp2_with fail
     go_ret
     exact ⟨ze, zs2 HB GEz GEw⟩
    ·
     simp only [hT, if_true, reduceIte] at H
     replace H := zbd H; obtain ⟨bN, AN, H⟩ := H
     rcases bN with _ | _
     ·
      try simp only [if_true, if_false, reduceIte, Bool.false_eq_true, reduceCtorEq] at H
      obtain rfl := Option.some.inj H
      go_wp2_with ((go_at_call 32; (with_reducible refine (impl_isName.calls k a1_3 _ _ AN.out).mono ?_); rintro e w' ⟨rfl, ⟨nd, rfl⟩⟩))
      go_ret
      exact ⟨ze, zs2 HB GEz GEw⟩
     ·
      try simp only [if_true, if_false, reduceIte, Bool.false_eq_true, reduceCtorEq] at H
      go_upto_region 28 with (first | (go_at_call 32; (with_reducible refine (impl_isName.calls k a1_3 _ _ AN.out).mono ?_); rintro e w' ⟨rfl, ⟨nd, rfl⟩⟩))
      try clear h1b h1n
      obtain ⟨hcz5_0, hcz5_1, hcz5_2, hcz5_3, hcz5_4, hcz5_5, hcz5_6, hcz5_7⟩ := zd8 BKw; have hcz6_0 := zc0 BKz
      unfold impl_wordOk.g impl_wordOk.c1 at H
      try simp only [if_true, if_false, reduceIte, Bool.false_eq_true, reduceCtorEq] at H
      replace H := zbd H; obtain ⟨bA4, A4, H⟩ := H
      rcases bA4 with _ | _
      ·
       try simp only [if_true, if_false, reduceIte, Bool.false_eq_true, reduceCtorEq] at H
       try rw [if_neg (by decide)] at H
       obtain rfl := Option.some.inj H
       go_wp2_with (first | (go_at_call 35; (with_reducible refine (impl_number.calls a1_4 _ _ A4.out).mono ?_); rintro e w' ⟨rfl, ⟨nd, rfl⟩⟩))
       go_ret
       exact ⟨ze, zs2 HB GEz GEw⟩
      ·
       try simp only [if_true, if_false, reduceIte, Bool.false_eq_true, reduceCtorEq] at H
       go_upto_region 30 with (first | (go_at_call 35; (with_reducible refine (impl_number.calls a1_4 _ _ A4.out).mono ?_); rintro e w' ⟨rfl, ⟨nd, rfl⟩⟩))
       try clear h1b h1n
       obtain ⟨hcz5_0, hcz5_1, hcz5_2, hcz5_3, hcz5_4, hcz5_5, hcz5_6, hcz5_7⟩ := zd8 BKw; have hcz6_0 := zc0 BKz
       unfold impl_wordOk.c2 at H
       try simp only [if_true, if_false, reduceIte, Bool.false_eq_true, reduceCtorEq] at H
       replace H := zbd H; obtain ⟨bA5, A5, H⟩ := H
       rcases bA5 with _ | _
       ·
        try simp only [if_true, if_false, reduceIte, Bool.false_eq_true, reduceCtorEq] at H
        obtain rfl := Option.some.inj H
        go_wp2_with (first | (go_at_call 35; (with_reducible refine (impl_number.calls a1_5 _ _ A5.out).mono ?_); rintro e w' ⟨rfl, ⟨nd, rfl⟩⟩))
        go_ret
        exact ⟨ze, zs2 HB GEz GEw⟩
       ·
        try simp only [if_true, if_false, reduceIte, Bool.false_eq_true, reduceCtorEq] at H
        by_cases h2 : a1_5 < a1_4
        ·
         rw [if_pos h2] at H
         have h2b : decide (a1_5 < a1_4) = true := decide_eq_true h2
         clear h2
         obtain rfl := Option.some.inj H
         go_wp2_with (first | (go_at_call 35; (with_reducible refine (impl_number.calls a1_5 _ _ A5.out).mono ?_); rintro e w' ⟨rfl, ⟨nd, rfl⟩⟩))
         go_ret
         exact ⟨ze, zs2 HB GEz GEw⟩
        ·
         rw [if_neg h2] at H
         have h2b : decide (a1_5 < a1_4) = false := decide_eq_false h2
         clear h2
         go_upto_region 32 with (first | (go_at_call 35; (with_reducible refine (impl_number.calls a1_5 _ _ A5.out).mono ?_); rintro e w' ⟨rfl, ⟨nd, rfl⟩⟩))
         try clear h1b h1n
         obtain ⟨hcz5_0, hcz5_1, hcz5_2, hcz5_3, hcz5_4, hcz5_5, hcz5_6, hcz5_7⟩ := zd8 BKw; have hcz6_0 := zc0 BKz
         unfold impl_wordOk.c3 at H
         try simp only [if_true, if_false, reduceIte, Bool.false_eq_true, reduceCtorEq] at H
         replace H := zbd H; obtain ⟨bA6, A6, H⟩ := H
         rcases bA6 with _ | _
         ·
          try simp only [if_true, if_false, reduceIte, Bool.false_eq_true, reduceCtorEq] at H
          obtain rfl := Option.some.inj H
          go_wp2_with (first | (go_at_call 35; (with_reducible refine (impl_number.calls a1_6 _ _ A6.out).mono ?_); rintro e w' ⟨rfl, ⟨nd, rfl⟩⟩))
          go_ret
          exact ⟨ze, zs2 HB GEz GEw⟩
         ·
          try simp only [if_true, if_false, reduceIte, Bool.false_eq_true, reduceCtorEq] at H
          go_upto_region 34 with (first | (go_at_call 35; (with_reducible refine (impl_number.calls a1_6 _ _ A6.out).mono ?_); rintro e w' ⟨rfl, ⟨nd, rfl⟩⟩))
          try clear h1b h1n
          obtain ⟨hcz5_0, hcz5_1, hcz5_2, hcz5_3, hcz5_4, hcz5_5, hcz5_6, hcz5_7⟩ := zd8 BKw; have hcz6_0 := zc0 BKz
          unfold impl_wordOk.c4 at H
          try simp only [if_true, if_false, reduceIte, Bool.false_eq_true, reduceCtorEq] at H
          have AT := zA H
          clear H
          rcases r with _ | _
          ·
           go_wp2_with (first | (go_at_call 36; (with_reducible refine (impl_tubeOk.calls k _ _ l0 _ _ l1_7 _ _ ?side1 ?side2 ?side3 ?side4 AT.out).mono ?_); (case side1 => exact zC HR0 HB); (case side2 => exact HC0.out); (case side3 => exact zC HR1 HB); (case side4 => exact HC1.out); rintro e wn ⟨rfl, hb⟩; replace BKz := zb BKz hb; replace BKw := zb BKw hb; replace HB := zE (zs2 HB GEz GEw) hb; clear hb))
           go_ret
           exact ⟨ze, zs2 HB GEz GEw⟩
          ·
           go_wp2_with (first | (go_at_call 36; (with_reducible refine (impl_tubeOk.calls k _ _ l0 _ _ l1_7 _ _ ?side1 ?side2 ?side3 ?side4 AT.out).mono ?_); (case side1 => exact zC HR0 HB); (case side2 => exact HC0.out); (case side3 => exact zC HR1 HB); (case side4 => exact HC1.out); rintro e wn ⟨rfl, hb⟩; replace BKz := zb BKz hb; replace BKw := zb BKw hb; replace HB := zE (zs2 HB GEz GEw) hb; clear hb))
           go_ret
           exact ⟨ze, zs2 HB GEz GEw⟩
  have q5b : (a1_0 == 5) = false := beq_eq_false_iff_ne.mpr q5
  by_cases q6 : a1_0 = 6
  ·
   subst q6
   simp only [if_true, if_false, reduceIte, Int.reduceEq] at H
   unfold impl_wordOk.e at H
   rcases hF : decide (0 ≤ ra) with _ | _
   ·
    simp only [hF, Bool.false_eq_true, if_false, reduceIte] at H
    obtain rfl := Option.some.inj H
    go_wp2_with fail
    go_ret
    exact ⟨ze, zs2 HB GEz GEw⟩
   ·
    simp only [hF, if_true, reduceIte] at H
    rcases hT : decide (0 ≤ rb) with _ | _
    ·
     simp only [hT, Bool.false_eq_true, if_false, reduceIte] at H
     obtain rfl := Option.some.inj H
     go_wp2_with fail
     go_ret
     exact ⟨ze, zs2 HB GEz GEw⟩
    ·
     simp only [hT, if_true, reduceIte] at H
     replace H := zbd H; obtain ⟨bN, AN, H⟩ := H
     rcases bN with _ | _
     ·
      try simp only [if_true, if_false, reduceIte, Bool.false_eq_true, reduceCtorEq] at H
      obtain rfl := Option.some.inj H
      go_wp2_with ((go_at_call 32; (with_reducible refine (impl_isName.calls k a1_3 _ _ AN.out).mono ?_); rintro e w' ⟨rfl, ⟨nd, rfl⟩⟩))
      go_ret
      exact ⟨ze, zs2 HB GEz GEw⟩
     ·
      try simp only [if_true, if_false, reduceIte, Bool.false_eq_true, reduceCtorEq] at H
      go_upto_region 28 with (first | (go_at_call 32; (with_reducible refine (impl_isName.calls k a1_3 _ _ AN.out).mono ?_); rintro e w' ⟨rfl, ⟨nd, rfl⟩⟩))
      try clear h1b h1n
      obtain ⟨hcz5_0, hcz5_1, hcz5_2, hcz5_3, hcz5_4, hcz5_5, hcz5_6, hcz5_7⟩ := zd8 BKw; have hcz6_0 := zc0 BKz
      unfold impl_wordOk.g impl_wordOk.c1 at H
      try simp only [if_true, if_false, reduceIte, Bool.false_eq_true, reduceCtorEq] at H
      by_cases h1 : a1_4 = 0
      ·
       rw [if_pos h1] at H
       have h1b : (a1_4 == 0) = true := beq_iff_eq.mpr h1
       have h1n : (a1_4 != 0) = false := by simpa using h1
       clear h1
       go_upto_region 30 with fail
       try clear h1b h1n
       obtain ⟨hcz5_0, hcz5_1, hcz5_2, hcz5_3, hcz5_4, hcz5_5, hcz5_6, hcz5_7⟩ := zd8 BKw; have hcz6_0 := zc0 BKz
       unfold impl_wordOk.c2 at H
       try simp only [if_true, if_false, reduceIte, Bool.false_eq_true, reduceCtorEq] at H
       by_cases h2 : a1_5 = 0
       ·
        rw [if_pos h2] at H
        have h2b : (a1_5 == 0) = true := beq_iff_eq.mpr h2
        have h2n : (a1_5 != 0) = false := by simpa using h2
        clear h2
        go_upto_region 32 with fail
        try clear h1b h1n
        obtain ⟨hcz5_0, hcz5_1, hcz5_2, hcz5_3, hcz5_4, hcz5_5, hcz5_6, hcz5_7⟩ := zd8 BKw; have hcz6_0 := zc0 BKz
        unfold impl_wordOk.c3 at H
        try simp only [if_true, if_false, reduceIte, Bool.false_eq_true, reduceCtorEq] at H
        replace H := zbd H; obtain ⟨bA6, A6, H⟩ := H
        rcases bA6 with _ | _
        ·
         try simp only [if_true, if_false, reduceIte, Bool.false_eq_true, reduceCtorEq] at H
         obtain rfl := Option.some.inj H
         go_wp2_with (first | (go_at_call 35; (with_reducible refine (impl_number.calls a1_6 _ _ A6.out).mono ?_); rintro e w' ⟨rfl, ⟨nd, rfl⟩⟩))
         go_ret
         exact ⟨ze, zs2 HB GEz GEw⟩
        ·
         try simp only [if_true, if_false, reduceIte, Bool.false_eq_true, reduceCtorEq] at H
         go_upto_region 34 with (first | (go_at_call 35; (with_reducible refine (impl_number.calls a1_6 _ _ A6.out).mono ?_); rintro e w' ⟨rfl, ⟨nd, rfl⟩⟩))
         try clear h1b h1n
         obtain ⟨hcz5_0, hcz5_1, hcz5_2, hcz5_3, hcz5_4, hcz5_5, hcz5_6, hcz5_7⟩ := zd8 BKw; have hcz6_0 := zc0 BKz
         unfold impl_wordOk.c4 at H
         try simp only [if_true, if_false, reduceIte, Bool.false_eq_true, reduceCtorEq] at H
         by_cases h4 : (l1_7.length : Int) = 0
         ·
          rw [if_pos h4] at H
          have h4b : ((l1_7.length : Int) == 0) = true := beq_iff_eq.mpr h4
          have h4n : ((l1_7.length : Int) != 0) = false := by simpa using h4
          clear h4
          obtain rfl := Option.some.inj H
          go_wp2_with fail
          go_ret
          exact ⟨ze, zs2 HB GEz GEw⟩
         ·
          rw [if_neg h4] at H
          have h4b : ((l1_7.length : Int) == 0) = false := beq_eq_false_iff_ne.mpr h4
          have h4n : ((l1_7.length : Int) != 0) = true := by simpa using h4
          clear h4
          obtain rfl := Option.some.inj H
          go_wp2_with fail
          go_ret
          exact ⟨ze, zs2 HB GEz GEw⟩
       ·
        rw [if_neg h2] at H
        have h2b : (a1_5 == 0) = false := beq_eq_false_iff_ne.mpr h2
        have h2n : (a1_5 != 0) = true := by simpa using h2
        clear h2
        obtain rfl := Option.some.inj H
        go_wp2_with fail
        go_ret
        exact ⟨ze, zs2 HB GEz GEw⟩
      ·
       rw [if_neg h1] at H
       have h1b : (a1_4 == 0) = false := beq_eq_false_iff_ne.mpr h1
       have h1n : (a1_4 != 0) = true := by simpa using h1
       clear h1
       obtain rfl := Option.some.inj H
       go_wp2_with fail
       go_ret
       exact ⟨ze, zs2 HB GEz GEw⟩
  have q6b : (a1_0 == 6) = false := beq_eq_false_iff_ne.mpr q6
  rw [if_neg q1, if_neg q2, if_neg q3, if_neg q4, if_neg q5, if_neg q6] at H
  clear q7 q8 q9 q1 q2 q3 q4 q5 q6
  unfold impl_wordOk.e at H
  rcases hF : decide (0 ≤ ra) with _ | _
  ·
   simp only [hF, Bool.false_eq_true, if_false, reduceIte] at H
   obtain rfl := Option.some.inj H
   go_wp2_with fail
   go_ret
   exact ⟨ze, zs2 HB GEz GEw⟩
  ·
   simp only [hF, if_true, reduceIte] at H
   rcases hT : decide (0 ≤ rb) with _ | _
   ·
    simp only [hT, Bool.false_eq_true, if_false, reduceIte] at H
    obtain rfl := Option.some.inj H
    go_wp2_with fail
    go_ret
    exact ⟨ze, zs2 HB GEz GEw⟩
   ·
    simp only [hT, if_true, reduceIte] at H
    replace H := zbd H; obtain ⟨bN, AN, H⟩ := H
    rcases bN with _ | _
    ·
     try simp only [if_true, if_false, reduceIte, Bool.false_eq_true, reduceCtorEq] at H
     obtain rfl := Option.some.inj H
     go_wp2_with ((go_at_call 32; (with_reducible refine (impl_isName.calls k a1_3 _ _ AN.out).mono ?_); rintro e w' ⟨rfl, ⟨nd, rfl⟩⟩))
     go_ret
     exact ⟨ze, zs2 HB GEz GEw⟩
    ·
     try simp only [if_true, if_false, reduceIte, Bool.false_eq_true, reduceCtorEq] at H
     obtain rfl := Option.some.inj H
     go_wp2_with ((go_at_call 32; (with_reducible refine (impl_isName.calls k a1_3 _ _ AN.out).mono ?_); rintro e w' ⟨rfl, ⟨nd, rfl⟩⟩))
     go_ret
     exact ⟨ze, zs2 HB GEz GEw⟩
def impl_HandWordOk.f (k : Nat) (l0 : List (S48)) (a1_0 : Int) (a1_1 : ByteArray) (a1_2 : ByteArray) (a1_3 : ByteArray) (a1_4 : Int) (a1_5 : Int) (a1_6 : Int) (l1_7 : List (S56)) : Option (Bool) := (impl_HandZonesOk.f k l0).bind fun t213 => (if t213 = true then ((impl_wordOk.f k l0 a1_0 a1_1 a1_2 a1_3 a1_4 a1_5 a1_6 l1_7).bind fun t214 => (some t214)) else (some false))
set_option maxHeartbeats 8000000 in
set_option maxRecDepth 100000 in
theorem impl_HandWordOk.calls (k : Nat) (A0 : Option Addr) (c0 : Nat) (l0 : List (S48)) (a1_0 : Int) (a1_1 : ByteArray) (a1_2 : ByteArray) (a1_3 : ByteArray) (a1_4 : Int) (a1_5 : Int) (a1_6 : Int) (A1_7 : Option Addr) (c1_7 : Nat) (l1_7 : List (S56)) (r : Bool) (w : World) (hr0 : Kd.C k48 w A0 l0.length l0) (hc0 : l0.length ≤ c0) (hr1_7 : Kd.C k56 w A1_7 l1_7.length l1_7) (hc1_7 : l1_7.length ≤ c1_7) (h : impl_HandWordOk.f k l0 a1_0 a1_1 a1_2 a1_3 a1_4 a1_5 a1_6 l1_7 = some r) :
 Calls Try.prog 9 #[.slice A0 l0.length c0, .agg #[.int .i64 a1_0, .string a1_1, .string a1_2, .string a1_3, .int .i64 a1_4, .int .i64 a1_5, .int .i64 a1_6, .slice A1_7 l1_7.length c1_7]] w fun e w' => e = .returned (.bool r) ∧ Below w.heap.size w w' := by
 have hu33 := Try.underlying33
 have HR0 := Aside0.mk hr0
 have HC0 := Aside0.mk hc0
 clear hr0 hc0
 have HR1_7 := Aside0.mk hr1_7
 have HC1_7 := Aside0.mk hc1_7
 clear hr1_7 hc1_7
 have HB := Aside0.mk (Below.refl w.heap.size w)
 have H : ((impl_HandZonesOk.f k l0).bind fun t213 => (if t213 = true then ((impl_wordOk.f k l0 a1_0 a1_1 a1_2 a1_3 a1_4 a1_5 a1_6 l1_7).bind fun t214 => (some t214)) else (some false))) = some r := h
 clear h
 replace H := zbd H; obtain ⟨t213, A3, H⟩ := H
 by_cases c4 : t213 = true
 rotate_left
 ·replace c4 := Bool.eq_false_iff.mpr c4
  subst c4
  have H1 : (some false) = some r := by rw [if_neg (show ¬ (false = true) by decide)] at H; exact H
  clear H
  have H := H1
  clear H1
  obtain rfl := Option.some.inj H
  go_enter Try.func9, Try.ntmps9
  go_wp2_with (first | ((with_reducible refine gate_dst (N := 3) rfl ?_); refine zbx 3 #[.int .i64 a1_0, .string a1_1, .string a1_2, .string a1_3, .int .i64 a1_4, .int .i64 a1_5, .int .i64 a1_6, .slice A1_7 l1_7.length c1_7] 33 ?_; intro gb212 hg w10 hbox hb; have BK212 := zA hbox; have GW212 := zgs hg (zs0 HB); have GE212 := zgs hg (zs0 HB); replace HB := zE (zs0 HB) hb; clear hb hbox hg) | ((with_reducible refine gate_callee (f := 23) rfl ?_); refine zgl (N := some 6) Try.func23 #[.slice A0 l0.length c0] ?_; (with_reducible refine (impl_HandZonesOk.calls k _ _ l0 false _ ?side1 ?side2 A3.out).mono ?_); (case side1 => exact zC HR0 HB); (case side2 => exact HC0.out); rintro e w11 ⟨rfl, hb⟩; refine ⟨_, rfl, ?_⟩; replace BK212 := zb BK212 hb; replace HB := zE (zs1 HB GE212) hb; (try clear hb); (try clear hb2); (try clear hk); (try clear hi)))
  go_ret
  exact ⟨ze, zs1 HB GE212⟩
 subst c4
 have H1 : ((impl_wordOk.f k l0 a1_0 a1_1 a1_2 a1_3 a1_4 a1_5 a1_6 l1_7).bind fun t214 => (some t214)) = some r := by rw [if_pos rfl] at H; exact H
 clear H
 have H := H1
 clear H1
 replace H := zbd H; obtain ⟨t214, A5, H⟩ := H
 obtain rfl := Option.some.inj H
 go_enter Try.func9, Try.ntmps9
 go_wp2_with (first | ((with_reducible refine gate_dst (N := 3) rfl ?_); refine zbx 3 #[.int .i64 a1_0, .string a1_1, .string a1_2, .string a1_3, .int .i64 a1_4, .int .i64 a1_5, .int .i64 a1_6, .slice A1_7 l1_7.length c1_7] 33 ?_; intro gb212 hg w6 hbox hb; have BK212 := zA hbox; have GW212 := zgs hg (zs0 HB); have GE212 := zgs hg (zs0 HB); replace HB := zE (zs0 HB) hb; clear hb hbox hg) | ((with_reducible refine gate_callee (f := 23) rfl ?_); refine zgl (N := some 6) Try.func23 #[.slice A0 l0.length c0] ?_; (with_reducible refine (impl_HandZonesOk.calls k _ _ l0 true _ ?side1 ?side2 A3.out).mono ?_); (case side1 => exact zC HR0 HB); (case side2 => exact HC0.out); rintro e w7 ⟨rfl, hb⟩; refine ⟨_, rfl, ?_⟩; replace BK212 := zb BK212 hb; replace HB := zE (zs1 HB GE212) hb; (try clear hb); (try clear hb2); (try clear hk); (try clear hi); obtain ⟨hcz8_0, hcz8_1, hcz8_2, hcz8_3, hcz8_4, hcz8_5, hcz8_6, hcz8_7⟩ := zd8 BK212; obtain ⟨hfz8_0, hfz8_1, hfz8_2, hfz8_3, hfz8_4, hfz8_5, hfz8_6, hfz8_7⟩ := zn8 BK212) | (go_at_call 24; (with_reducible refine (impl_wordOk.calls k _ _ l0 a1_0 a1_1 a1_2 a1_3 a1_4 a1_5 a1_6 _ _ l1_7 t214 _ ?side1 ?side2 ?side3 ?side4 A5.out).mono ?_); (case side1 => exact zC HR0 HB); (case side2 => exact HC0.out); (case side3 => exact zC HR1_7 HB); (case side4 => exact HC1_7.out); rintro e w9 ⟨rfl, hb⟩; replace BK212 := zb BK212 hb; replace HB := zE (zs1 HB GE212) hb; (try clear hb); (try clear hb2); (try clear hk); (try clear hi)))
 go_ret
 exact ⟨ze, zs1 HB GE212⟩
end Go.Proofs.Ytbgcpbdnmpnjhaa.QFnExactHandWordOk
