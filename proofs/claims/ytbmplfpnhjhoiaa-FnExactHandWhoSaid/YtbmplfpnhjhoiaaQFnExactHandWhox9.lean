/- The walk of what the law FnExactHandWho reaches: laid by a program of this session (ownprint.py). -/
import Derived.Test.YtbmplfpnhjhoiaaQFnExactHandWhox0
import Derived.Test.YtbmplfpnhjhoiaaQFnExactHandWhox7
import Derived.Test.YtbmplfpnhjhoiaaQFnExactHandWhox8
namespace Go.Proofs.Ytbmplfpnhjhoiaa.QFnExactHandWho
open Go.RowKit Go.Proofs.YtbmplfpnhjhoiaaW.PrintWords Go.Proofs.YtbmplfpnhjhoiaaW.PrintLast Go.Proofs.YtbmplfpnhjhoiaaW.PrintMore Go.Proofs.Ytbmplfpnhjhoiaa.Z
attribute [local go_sem] max2_int min2_int max_two min_two max_three min_three max_four min_four zdn   -- for this text's walks alone
set_option linter.unusedVariables false
set_option linter.unusedSimpArgs false
def impl_handBox.f (a0_0 : Int) (a0_1 : Int) (a0_2 : Int) (a0_3 : Int) (a0_4 : Int) (a0_5 : Int) : Option (Bool) := (impl_within.f a0_0 0 15).bind fun t208 => (if t208 = true then ((impl_within.f a0_1 0 15).bind fun t209 => (if t209 = true then (if 0 ≤ a0_2 then (if a0_2 ≤ a0_3 then (if a0_3 ≤ 6 then (if 0 ≤ a0_4 then (if a0_4 ≤ a0_5 then (some (decide (a0_5 ≤ 10000))) else (some false)) else (some false)) else (some false)) else (some false)) else (some false)) else (some false))) else (some false))
set_option maxHeartbeats 8000000 in
set_option maxRecDepth 100000 in
theorem impl_handBox.calls (a0_0 : Int) (a0_1 : Int) (a0_2 : Int) (a0_3 : Int) (a0_4 : Int) (a0_5 : Int) (r : Bool) (w : World) (h : impl_handBox.f a0_0 a0_1 a0_2 a0_3 a0_4 a0_5 = some r) :
 Calls Try.prog 92 #[.agg #[.int .i64 a0_0, .int .i64 a0_1, .int .i64 a0_2, .int .i64 a0_3, .int .i64 a0_4, .int .i64 a0_5]] w fun e w' => e = .returned (.bool r) ∧ Below w.heap.size w w' := by
 have hu41 := Try.underlying41
 have HB := zA (Below.refl w.heap.size w)
 have H : ((impl_within.f a0_0 0 15).bind fun t208 => (if t208 = true then ((impl_within.f a0_1 0 15).bind fun t209 => (if t209 = true then (if 0 ≤ a0_2 then (if a0_2 ≤ a0_3 then (if a0_3 ≤ 6 then (if 0 ≤ a0_4 then (if a0_4 ≤ a0_5 then (some (decide (a0_5 ≤ 10000))) else (some false)) else (some false)) else (some false)) else (some false)) else (some false)) else (some false))) else (some false))) = some r := h
 clear h
 replace H := zbd H; obtain ⟨t208, A2, H⟩ := H
 by_cases c3 : t208 = true
 rotate_left
 ·replace c3 := Bool.eq_false_iff.mpr c3
  subst c3
  have H1 : (some false) = some r := by rw [if_neg (show ¬ (false = true) by decide)] at H; exact H
  clear H
  have H := H1
  clear H1
  obtain rfl := Option.some.inj H
  go_enter Try.func92, Try.ntmps92
  go_wp2_with (first | ((with_reducible refine gate_dst (N := 1) rfl ?_); refine zbx 1 #[.int .i64 a0_0, .int .i64 a0_1, .int .i64 a0_2, .int .i64 a0_3, .int .i64 a0_4, .int .i64 a0_5] 41 ?_; intro gb207 hg w25 hbox hb; have BK207 := zA hbox; have GW207 := zgs hg (zs0 HB); have GE207 := zgs hg (zs0 HB); replace HB := zE (zs0 HB) hb; clear hb hbox hg; obtain ⟨hcz26_0, hcz26_1, hcz26_2, hcz26_3, hcz26_4, hcz26_5⟩ := zd6 BK207; obtain ⟨hfz26_0, hfz26_1, hfz26_2, hfz26_3, hfz26_4, hfz26_5⟩ := zn6 BK207) | ((with_reducible refine gate_callee (f := 93) rfl ?_); refine zgl Try.func93 #[.int .i64 a0_0, .int .i64 0, .int .i64 15] ?_; (with_reducible refine (impl_within.calls a0_0 0 15 false _ A2.out).mono ?_); rintro e w' ⟨rfl, ⟨nd, rfl⟩⟩; refine ⟨_, rfl, ?_⟩))
  go_ret
  exact ⟨ze, zs1 HB GE207⟩
 subst c3
 have H1 : ((impl_within.f a0_1 0 15).bind fun t209 => (if t209 = true then (if 0 ≤ a0_2 then (if a0_2 ≤ a0_3 then (if a0_3 ≤ 6 then (if 0 ≤ a0_4 then (if a0_4 ≤ a0_5 then (some (decide (a0_5 ≤ 10000))) else (some false)) else (some false)) else (some false)) else (some false)) else (some false)) else (some false))) = some r := by rw [if_pos rfl] at H; exact H
 clear H
 have H := H1
 clear H1
 replace H := zbd H; obtain ⟨t209, A4, H⟩ := H
 by_cases c5 : t209 = true
 rotate_left
 ·replace c5 := Bool.eq_false_iff.mpr c5
  subst c5
  have H1 : (some false) = some r := by rw [if_neg (show ¬ (false = true) by decide)] at H; exact H
  clear H
  have H := H1
  clear H1
  obtain rfl := Option.some.inj H
  go_enter Try.func92, Try.ntmps92
  go_wp2_with (first | ((with_reducible refine gate_dst (N := 1) rfl ?_); refine zbx 1 #[.int .i64 a0_0, .int .i64 a0_1, .int .i64 a0_2, .int .i64 a0_3, .int .i64 a0_4, .int .i64 a0_5] 41 ?_; intro gb207 hg w23 hbox hb; have BK207 := zA hbox; have GW207 := zgs hg (zs0 HB); have GE207 := zgs hg (zs0 HB); replace HB := zE (zs0 HB) hb; clear hb hbox hg; obtain ⟨hcz24_0, hcz24_1, hcz24_2, hcz24_3, hcz24_4, hcz24_5⟩ := zd6 BK207; obtain ⟨hfz24_0, hfz24_1, hfz24_2, hfz24_3, hfz24_4, hfz24_5⟩ := zn6 BK207) | ((with_reducible refine gate_callee (f := 93) rfl ?_); refine zgl Try.func93 #[.int .i64 a0_0, .int .i64 0, .int .i64 15] ?_; (with_reducible refine (impl_within.calls a0_0 0 15 true _ A2.out).mono ?_); rintro e w' ⟨rfl, ⟨nd, rfl⟩⟩; refine ⟨_, rfl, ?_⟩) | (go_at_call 93; (with_reducible refine (impl_within.calls a0_1 0 15 false _ A4.out).mono ?_); rintro e w' ⟨rfl, ⟨nd, rfl⟩⟩))
  go_ret
  exact ⟨ze, zs1 HB GE207⟩
 subst c5
 have H1 : (if 0 ≤ a0_2 then (if a0_2 ≤ a0_3 then (if a0_3 ≤ 6 then (if 0 ≤ a0_4 then (if a0_4 ≤ a0_5 then (some (decide (a0_5 ≤ 10000))) else (some false)) else (some false)) else (some false)) else (some false)) else (some false)) = some r := by rw [if_pos rfl] at H; exact H
 clear H
 have H := H1
 clear H1
 by_cases c6 : 0 ≤ a0_2
 rotate_left
 ·rw [if_neg c6] at H
  have c6b0 : decide (0 ≤ a0_2) = false := decide_eq_false c6
  clear c6
  obtain rfl := Option.some.inj H
  go_enter Try.func92, Try.ntmps92
  go_wp2_with (first | ((with_reducible refine gate_dst (N := 1) rfl ?_); refine zbx 1 #[.int .i64 a0_0, .int .i64 a0_1, .int .i64 a0_2, .int .i64 a0_3, .int .i64 a0_4, .int .i64 a0_5] 41 ?_; intro gb207 hg w21 hbox hb; have BK207 := zA hbox; have GW207 := zgs hg (zs0 HB); have GE207 := zgs hg (zs0 HB); replace HB := zE (zs0 HB) hb; clear hb hbox hg; obtain ⟨hcz22_0, hcz22_1, hcz22_2, hcz22_3, hcz22_4, hcz22_5⟩ := zd6 BK207; obtain ⟨hfz22_0, hfz22_1, hfz22_2, hfz22_3, hfz22_4, hfz22_5⟩ := zn6 BK207) | ((with_reducible refine gate_callee (f := 93) rfl ?_); refine zgl Try.func93 #[.int .i64 a0_0, .int .i64 0, .int .i64 15] ?_; (with_reducible refine (impl_within.calls a0_0 0 15 true _ A2.out).mono ?_); rintro e w' ⟨rfl, ⟨nd, rfl⟩⟩; refine ⟨_, rfl, ?_⟩) | (go_at_call 93; (with_reducible refine (impl_within.calls a0_1 0 15 true _ A4.out).mono ?_); rintro e w' ⟨rfl, ⟨nd, rfl⟩⟩))
  go_ret
  exact ⟨ze, zs1 HB GE207⟩
 rw [if_pos c6] at H
 have c6b0 : decide (0 ≤ a0_2) = true := decide_eq_true c6
 clear c6
 by_cases c7 : a0_2 ≤ a0_3
 rotate_left
 ·rw [if_neg c7] at H
  have c7b0 : decide (a0_2 ≤ a0_3) = false := decide_eq_false c7
  clear c7
  obtain rfl := Option.some.inj H
  go_enter Try.func92, Try.ntmps92
  go_wp2_with (first | ((with_reducible refine gate_dst (N := 1) rfl ?_); refine zbx 1 #[.int .i64 a0_0, .int .i64 a0_1, .int .i64 a0_2, .int .i64 a0_3, .int .i64 a0_4, .int .i64 a0_5] 41 ?_; intro gb207 hg w19 hbox hb; have BK207 := zA hbox; have GW207 := zgs hg (zs0 HB); have GE207 := zgs hg (zs0 HB); replace HB := zE (zs0 HB) hb; clear hb hbox hg; obtain ⟨hcz20_0, hcz20_1, hcz20_2, hcz20_3, hcz20_4, hcz20_5⟩ := zd6 BK207; obtain ⟨hfz20_0, hfz20_1, hfz20_2, hfz20_3, hfz20_4, hfz20_5⟩ := zn6 BK207) | ((with_reducible refine gate_callee (f := 93) rfl ?_); refine zgl Try.func93 #[.int .i64 a0_0, .int .i64 0, .int .i64 15] ?_; (with_reducible refine (impl_within.calls a0_0 0 15 true _ A2.out).mono ?_); rintro e w' ⟨rfl, ⟨nd, rfl⟩⟩; refine ⟨_, rfl, ?_⟩) | (go_at_call 93; (with_reducible refine (impl_within.calls a0_1 0 15 true _ A4.out).mono ?_); rintro e w' ⟨rfl, ⟨nd, rfl⟩⟩))
  go_ret
  exact ⟨ze, zs1 HB GE207⟩
 rw [if_pos c7] at H
 have c7b0 : decide (a0_2 ≤ a0_3) = true := decide_eq_true c7
 clear c7
 by_cases c8 : a0_3 ≤ 6
 rotate_left
 ·rw [if_neg c8] at H
  have c8b0 : decide (a0_3 ≤ 6) = false := decide_eq_false c8
  clear c8
  obtain rfl := Option.some.inj H
  go_enter Try.func92, Try.ntmps92
  go_wp2_with (first | ((with_reducible refine gate_dst (N := 1) rfl ?_); refine zbx 1 #[.int .i64 a0_0, .int .i64 a0_1, .int .i64 a0_2, .int .i64 a0_3, .int .i64 a0_4, .int .i64 a0_5] 41 ?_; intro gb207 hg w17 hbox hb; have BK207 := zA hbox; have GW207 := zgs hg (zs0 HB); have GE207 := zgs hg (zs0 HB); replace HB := zE (zs0 HB) hb; clear hb hbox hg; obtain ⟨hcz18_0, hcz18_1, hcz18_2, hcz18_3, hcz18_4, hcz18_5⟩ := zd6 BK207; obtain ⟨hfz18_0, hfz18_1, hfz18_2, hfz18_3, hfz18_4, hfz18_5⟩ := zn6 BK207) | ((with_reducible refine gate_callee (f := 93) rfl ?_); refine zgl Try.func93 #[.int .i64 a0_0, .int .i64 0, .int .i64 15] ?_; (with_reducible refine (impl_within.calls a0_0 0 15 true _ A2.out).mono ?_); rintro e w' ⟨rfl, ⟨nd, rfl⟩⟩; refine ⟨_, rfl, ?_⟩) | (go_at_call 93; (with_reducible refine (impl_within.calls a0_1 0 15 true _ A4.out).mono ?_); rintro e w' ⟨rfl, ⟨nd, rfl⟩⟩))
  go_ret
  exact ⟨ze, zs1 HB GE207⟩
 rw [if_pos c8] at H
 have c8b0 : decide (a0_3 ≤ 6) = true := decide_eq_true c8
 clear c8
 by_cases c9 : 0 ≤ a0_4
 rotate_left
 ·rw [if_neg c9] at H
  have c9b0 : decide (0 ≤ a0_4) = false := decide_eq_false c9
  clear c9
  obtain rfl := Option.some.inj H
  go_enter Try.func92, Try.ntmps92
  go_wp2_with (first | ((with_reducible refine gate_dst (N := 1) rfl ?_); refine zbx 1 #[.int .i64 a0_0, .int .i64 a0_1, .int .i64 a0_2, .int .i64 a0_3, .int .i64 a0_4, .int .i64 a0_5] 41 ?_; intro gb207 hg w15 hbox hb; have BK207 := zA hbox; have GW207 := zgs hg (zs0 HB); have GE207 := zgs hg (zs0 HB); replace HB := zE (zs0 HB) hb; clear hb hbox hg; obtain ⟨hcz16_0, hcz16_1, hcz16_2, hcz16_3, hcz16_4, hcz16_5⟩ := zd6 BK207; obtain ⟨hfz16_0, hfz16_1, hfz16_2, hfz16_3, hfz16_4, hfz16_5⟩ := zn6 BK207) | ((with_reducible refine gate_callee (f := 93) rfl ?_); refine zgl Try.func93 #[.int .i64 a0_0, .int .i64 0, .int .i64 15] ?_; (with_reducible refine (impl_within.calls a0_0 0 15 true _ A2.out).mono ?_); rintro e w' ⟨rfl, ⟨nd, rfl⟩⟩; refine ⟨_, rfl, ?_⟩) | (go_at_call 93; (with_reducible refine (impl_within.calls a0_1 0 15 true _ A4.out).mono ?_); rintro e w' ⟨rfl, ⟨nd, rfl⟩⟩))
  go_ret
  exact ⟨ze, zs1 HB GE207⟩
 rw [if_pos c9] at H
 have c9b0 : decide (0 ≤ a0_4) = true := decide_eq_true c9
 clear c9
 by_cases c10 : a0_4 ≤ a0_5
 ·rw [if_pos c10] at H
  have c10b0 : decide (a0_4 ≤ a0_5) = true := decide_eq_true c10
  clear c10
  obtain rfl := Option.some.inj H
  go_enter Try.func92, Try.ntmps92
  go_wp2_with (first | ((with_reducible refine gate_dst (N := 1) rfl ?_); refine zbx 1 #[.int .i64 a0_0, .int .i64 a0_1, .int .i64 a0_2, .int .i64 a0_3, .int .i64 a0_4, .int .i64 a0_5] 41 ?_; intro gb207 hg w11 hbox hb; have BK207 := zA hbox; have GW207 := zgs hg (zs0 HB); have GE207 := zgs hg (zs0 HB); replace HB := zE (zs0 HB) hb; clear hb hbox hg; obtain ⟨hcz12_0, hcz12_1, hcz12_2, hcz12_3, hcz12_4, hcz12_5⟩ := zd6 BK207; obtain ⟨hfz12_0, hfz12_1, hfz12_2, hfz12_3, hfz12_4, hfz12_5⟩ := zn6 BK207) | ((with_reducible refine gate_callee (f := 93) rfl ?_); refine zgl Try.func93 #[.int .i64 a0_0, .int .i64 0, .int .i64 15] ?_; (with_reducible refine (impl_within.calls a0_0 0 15 true _ A2.out).mono ?_); rintro e w' ⟨rfl, ⟨nd, rfl⟩⟩; refine ⟨_, rfl, ?_⟩) | (go_at_call 93; (with_reducible refine (impl_within.calls a0_1 0 15 true _ A4.out).mono ?_); rintro e w' ⟨rfl, ⟨nd, rfl⟩⟩))
  go_ret
  exact ⟨ze, zs1 HB GE207⟩
 rw [if_neg c10] at H
 have c10b0 : decide (a0_4 ≤ a0_5) = false := decide_eq_false c10
 clear c10
 obtain rfl := Option.some.inj H
 go_enter Try.func92, Try.ntmps92
 go_wp2_with (first | ((with_reducible refine gate_dst (N := 1) rfl ?_); refine zbx 1 #[.int .i64 a0_0, .int .i64 a0_1, .int .i64 a0_2, .int .i64 a0_3, .int .i64 a0_4, .int .i64 a0_5] 41 ?_; intro gb207 hg w13 hbox hb; have BK207 := zA hbox; have GW207 := zgs hg (zs0 HB); have GE207 := zgs hg (zs0 HB); replace HB := zE (zs0 HB) hb; clear hb hbox hg; obtain ⟨hcz14_0, hcz14_1, hcz14_2, hcz14_3, hcz14_4, hcz14_5⟩ := zd6 BK207; obtain ⟨hfz14_0, hfz14_1, hfz14_2, hfz14_3, hfz14_4, hfz14_5⟩ := zn6 BK207) | ((with_reducible refine gate_callee (f := 93) rfl ?_); refine zgl Try.func93 #[.int .i64 a0_0, .int .i64 0, .int .i64 15] ?_; (with_reducible refine (impl_within.calls a0_0 0 15 true _ A2.out).mono ?_); rintro e w' ⟨rfl, ⟨nd, rfl⟩⟩; refine ⟨_, rfl, ?_⟩) | (go_at_call 93; (with_reducible refine (impl_within.calls a0_1 0 15 true _ A4.out).mono ?_); rintro e w' ⟨rfl, ⟨nd, rfl⟩⟩))
 go_ret
 exact ⟨ze, zs1 HB GE207⟩
def impl_HandPartOf.l0 : Nat → List (S41) → List (S41) → Int → Int → ByteArray → Int → Int → Int → Int → Option ((List (S41)))
 | 0, _, _, _, _, _, _, _, _, _ => none
 | k + 1, x5, x12, x13, x14, x211000, x211001, x211002, x211003, x211004 => if x14 < x13 then (if 0 ≤ x14 then (if x14 < (x12.length : Int) then ((impl_handBox.f ((rd_T41 x12 x14).f0) ((rd_T41 x12 x14).f1) ((rd_T41 x12 x14).f2) ((rd_T41 x12 x14).f3) ((rd_T41 x12 x14).f4) ((rd_T41 x12 x14).f5)).bind fun t217 => (if t217 = true then ((impl_within.f ((rd_T41 x12 x14).f0) (wrap64 (x211001 - 1)) (wrap64 (x211003 + 1))).bind fun t218 => (if t218 = true then ((impl_within.f ((rd_T41 x12 x14).f1) (wrap64 (x211002 - 1)) (wrap64 (x211004 + 1))).bind fun t219 => (if t219 = true then (if x5.length < 2932031007402 then (impl_HandPartOf.l0 k (x5 ++ [(⟨(rd_T41 x12 x14).f0, (rd_T41 x12 x14).f1, (rd_T41 x12 x14).f2, (rd_T41 x12 x14).f3, (rd_T41 x12 x14).f4, (rd_T41 x12 x14).f5⟩ : S41)]) x12 x13 (wrap64 (x14 + 1)) x211000 x211001 x211002 x211003 x211004) else (none)) else (impl_HandPartOf.l0 k x5 x12 x13 (wrap64 (x14 + 1)) x211000 x211001 x211002 x211003 x211004))) else (impl_HandPartOf.l0 k x5 x12 x13 (wrap64 (x14 + 1)) x211000 x211001 x211002 x211003 x211004))) else (impl_HandPartOf.l0 k x5 x12 x13 (wrap64 (x14 + 1)) x211000 x211001 x211002 x211003 x211004))) else (none)) else (none)) else (some x5)
def impl_HandPartOf.f (k : Nat) (a0_0 : ByteArray) (a0_1 : Int) (a0_2 : Int) (a0_3 : Int) (a0_4 : Int) (l1 : List (S41)) : Option ((List (S41))) := (impl_HandZonesOk.f k (([(⟨a0_0, a0_1, a0_2, a0_3, a0_4⟩ : S55)] : List (S55)))).bind fun t214 => (if t214 = true then (impl_HandPartOf.l0 k ([] : List (S41)) l1 (l1.length : Int) 0 a0_0 a0_1 a0_2 a0_3 a0_4) else (some ([] : List (S41))))
set_option maxHeartbeats 8000000 in
set_option maxRecDepth 100000 in
theorem impl_HandPartOf.calls (k : Nat) (a0_0 : ByteArray) (a0_1 : Int) (a0_2 : Int) (a0_3 : Int) (a0_4 : Int) (A1 : Option Addr) (c1 : Nat) (l1 : List (S41)) (r : List (S41)) (w : World) (hr1 : Kd.C k41 w A1 l1.length l1) (hc1 : l1.length ≤ c1) (h : impl_HandPartOf.f k a0_0 a0_1 a0_2 a0_3 a0_4 l1 = some r) :
 Calls Try.prog 32 #[.agg #[.string a0_0, .int .i64 a0_1, .int .i64 a0_2, .int .i64 a0_3, .int .i64 a0_4], .slice A1 l1.length c1] w fun e w' => ∃ v0_ : Value, e = .returned (v0_) ∧ Kd.R k41 41 w' w.heap.size (fun _ => True) v0_ r ∧ Below w.heap.size w w' := by
 have hu55 := Try.underlying55
 have hu41 := Try.underlying41
 have HR1 := zA hr1
 have HC1 := zA hc1
 clear hr1 hc1
 have HB := zA (Below.refl w.heap.size w)
 have H : ((impl_HandZonesOk.f k (([(⟨a0_0, a0_1, a0_2, a0_3, a0_4⟩ : S55)] : List (S55)))).bind fun t214 => (if t214 = true then (impl_HandPartOf.l0 k ([] : List (S41)) l1 (l1.length : Int) 0 a0_0 a0_1 a0_2 a0_3 a0_4) else (some ([] : List (S41))))) = some r := h
 clear h
 obtain ⟨y211, hy211⟩ : ∃ y_ : List (S55), y_ = (([(⟨a0_0, a0_1, a0_2, a0_3, a0_4⟩ : S55)] : List (S55))) := ⟨_, rfl⟩
 replace H : ((impl_HandZonesOk.f k y211).bind fun t214 => (if t214 = true then (impl_HandPartOf.l0 k ([] : List (S41)) l1 (l1.length : Int) 0 a0_0 a0_1 a0_2 a0_3 a0_4) else (some ([] : List (S41))))) = some r := by first | (rw [hy211]; with_reducible exact H) | (have H2_ := (Option.bind_some _ _).symm.trans H; rw [hy211]; with_reducible exact H2_) | (have H2_ := (Option.bind_some _ _).symm.trans H; with_reducible exact H2_) | with_reducible exact H | (rw [hy211]; exact H) | exact H
 have Ny211 := zA hy211
 clear hy211
 replace H := zbd H; obtain ⟨t214, A3, H⟩ := H
 by_cases c4 : t214 = true
 rotate_left
 ·replace c4 := Bool.eq_false_iff.mpr c4
  subst c4
  have H1 : (some ([] : List (S41))) = some r := by rw [if_neg (show ¬ (false = true) by decide)] at H; exact H
  clear H
  have H := H1
  clear H1
  obtain rfl := Option.some.inj H
  go_enter Try.func32, Try.ntmps32
  go_wp2_with (first | ((with_reducible refine gate_dst (N := 2) rfl ?_); refine zbx 2 #[.string a0_0, .int .i64 a0_1, .int .i64 a0_2, .int .i64 a0_3, .int .i64 a0_4] 55 ?_; intro gb210 hg w44 hbox hb; have BK210 := zA hbox; have GW210 := zgs hg (zs0 HB); have GE210 := zgs hg (zs0 HB); replace HB := zE (zs0 HB) hb; clear hb hbox hg; obtain ⟨hcz45_0, hcz45_1, hcz45_2, hcz45_3, hcz45_4⟩ := zd5 BK210; obtain ⟨hfz45_0, hfz45_1, hfz45_2, hfz45_3, hfz45_4⟩ := zn5 BK210) | ((with_reducible refine gate_dst (N := 9) rfl ?_); refine Kd.R_lit k55 _ 55 ?hg (N := 9) ?hd (xs := ([(⟨a0_0, a0_1, a0_2, a0_3, a0_4⟩ : S55)] : List (S55))) (inner := [.string a0_0, .int .i64 a0_1, .int .i64 a0_2, .int .i64 a0_3, .int .i64 a0_4]) (ok := fun _ => True) (okp := fun _ => True) ?hr ?hp (fun _ hk => hk) trivial (Below.refl _ _) (Nat.le_refl _) (by simp) ?_; (case hd => rfl); (case hg => rfl); (case hr => first | (go_simp; done) | (go_simp; rfl)); (case hp => exact (Reps.c5 (show Kd.M k55 _ _ _ (⟨a0_0, a0_1, a0_2, a0_3, a0_4⟩ : S55) [.string a0_0, .int .i64 a0_1, .int .i64 a0_2, .int .i64 a0_3, .int .i64 a0_4] from (k55_mkM _ _ _ (⟨a0_0, a0_1, a0_2, a0_3, a0_4⟩ : S55) )) (Reps.none _ _))); intro v212 w46 ho47 hb hg_ hnew_; clear hg_ hnew_; (first | rw [← Ny211.out] at ho47 | (simp only [Int.reduceToNat] at ho47; rw [← Ny211.out] at ho47)); have HO213 := zA (Kd.R_lower (Kd.R_newB ho47 (g := gb210) (o := .cells #[.string a0_0, .int .i64 a0_1, .int .i64 a0_2, .int .i64 a0_3, .int .i64 a0_4] 55 (0, 0)) (zh BK210)) (below_size (zs1 HB GE210))); replace BK210 := zb BK210 hb; replace HB := zE (zs1 HB GE210) hb; clear hb ho47; obtain ⟨Ao48, co48, eo48⟩ := Kd.R_slice HO213.out; subst eo48) | ((with_reducible refine gate_callee (f := 50) rfl ?_); refine zgl Try.func50 #[.slice Ao48 y211.length co48] ?_; (with_reducible refine (impl_HandZonesOk.calls k _ _ y211 false _ ?side1 ?side2 A3.out).mono ?_); (case side1 => repeat (first | exact (Kd.R_reads' HO213.out).2.2 | (with_reducible refine Kd.C_alloc ?_ _) | (with_reducible refine Kd.C_drewN ?_ _) | (with_reducible refine Kd.C_drew ?_))); (case side2 => exact (Kd.R_reads' HO213.out).2.1); rintro e w49 ⟨rfl, hb⟩; refine ⟨_, rfl, ?_⟩; replace HO213 := zA (Kd.R_below (zr HO213) hb); replace BK210 := zb BK210 hb; replace HB := zE (zs1 HB GE210) hb; (try clear hb); (try clear hb2); (try clear hk); (try clear hi)))
  go_ret
  exact ⟨_, ze, by first | exact Kd.R_nil _ _ _ _ _ | exact Kd.N_nil _ _ _ _ _ | exact Kd.V_nil _ _ _ _ _ | exact Kd.Q_nil _ _ _ _ _ | exact Kd.S_nil _ _ _ _ _, zs1 HB GE210⟩
 subst c4
 have H1 : (impl_HandPartOf.l0 k ([] : List (S41)) l1 (l1.length : Int) 0 a0_0 a0_1 a0_2 a0_3 a0_4) = some r := by rw [if_pos rfl] at H; exact H
 clear H
 have H := H1
 clear H1
 have H' := zA H
 clear H
 go_enter Try.func32, Try.ntmps32
 go_wp2_with (first | ((with_reducible refine gate_dst (N := 2) rfl ?_); refine zbx 2 #[.string a0_0, .int .i64 a0_1, .int .i64 a0_2, .int .i64 a0_3, .int .i64 a0_4] 55 ?_; intro gb210 hg w5 hbox hb; have BK210 := zA hbox; have GW210 := zgs hg (zs0 HB); have GE210 := zgs hg (zs0 HB); replace HB := zE (zs0 HB) hb; clear hb hbox hg; obtain ⟨hcz6_0, hcz6_1, hcz6_2, hcz6_3, hcz6_4⟩ := zd5 BK210; obtain ⟨hfz6_0, hfz6_1, hfz6_2, hfz6_3, hfz6_4⟩ := zn5 BK210) | ((with_reducible refine gate_dst (N := 9) rfl ?_); refine Kd.R_lit k55 _ 55 ?hg (N := 9) ?hd (xs := ([(⟨a0_0, a0_1, a0_2, a0_3, a0_4⟩ : S55)] : List (S55))) (inner := [.string a0_0, .int .i64 a0_1, .int .i64 a0_2, .int .i64 a0_3, .int .i64 a0_4]) (ok := fun _ => True) (okp := fun _ => True) ?hr ?hp (fun _ hk => hk) trivial (Below.refl _ _) (Nat.le_refl _) (by simp) ?_; (case hd => rfl); (case hg => rfl); (case hr => first | (go_simp; done) | (go_simp; rfl)); (case hp => exact (Reps.c5 (show Kd.M k55 _ _ _ (⟨a0_0, a0_1, a0_2, a0_3, a0_4⟩ : S55) [.string a0_0, .int .i64 a0_1, .int .i64 a0_2, .int .i64 a0_3, .int .i64 a0_4] from (k55_mkM _ _ _ (⟨a0_0, a0_1, a0_2, a0_3, a0_4⟩ : S55) )) (Reps.none _ _))); intro v212 w7 ho8 hb hg_ hnew_; clear hg_ hnew_; (first | rw [← Ny211.out] at ho8 | (simp only [Int.reduceToNat] at ho8; rw [← Ny211.out] at ho8)); have HO213 := zA (Kd.R_lower (Kd.R_newB ho8 (g := gb210) (o := .cells #[.string a0_0, .int .i64 a0_1, .int .i64 a0_2, .int .i64 a0_3, .int .i64 a0_4] 55 (0, 0)) (zh BK210)) (below_size (zs1 HB GE210))); replace BK210 := zb BK210 hb; replace HB := zE (zs1 HB GE210) hb; clear hb ho8; obtain ⟨Ao9, co9, eo9⟩ := Kd.R_slice HO213.out; subst eo9) | ((with_reducible refine gate_callee (f := 50) rfl ?_); refine zgl Try.func50 #[.slice Ao9 y211.length co9] ?_; (with_reducible refine (impl_HandZonesOk.calls k _ _ y211 true _ ?side1 ?side2 A3.out).mono ?_); (case side1 => repeat (first | exact (Kd.R_reads' HO213.out).2.2 | (with_reducible refine Kd.C_alloc ?_ _) | (with_reducible refine Kd.C_drewN ?_ _) | (with_reducible refine Kd.C_drew ?_))); (case side2 => exact (Kd.R_reads' HO213.out).2.1); rintro e w10 ⟨rfl, hb⟩; refine ⟨_, rfl, ?_⟩; replace HO213 := zA (Kd.R_below (zr HO213) hb); replace BK210 := zb BK210 hb; replace HB := zE (zs1 HB GE210) hb; (try clear hb); (try clear hb2); (try clear hk); (try clear hi)))
 go_loopg [5, 14] k (fun kq v5 v14 w' => ∃ (x5_1 : List (S41)) (x14_1 : Int), v14 = .int .i64 x14_1 ∧ Aside0 (impl_HandPartOf.l0 kq x5_1 l1 (l1.length : Int) x14_1 a0_0 a0_1 a0_2 a0_3 a0_4 = some r) ∧ Aside0 (kq ≤ k) ∧ Aside0 (Kd.R k41 41 w' w.heap.size (fun _ => True) v5 x5_1) ∧ Aside0 (w'.heap[gb210]? = some (.cells #[.string a0_0, .int .i64 a0_1, .int .i64 a0_2, .int .i64 a0_3, .int .i64 a0_4] 55 (0, 0))) ∧ Aside0 (Below w.heap.size w w'))
 case atStart => exact ⟨(([] : List (S41))), (0), zi, H', ⟨Nat.le_refl _⟩, ⟨by first | exact Kd.R_nil _ _ _ _ _ | exact Kd.N_nil _ _ _ _ _ | exact Kd.V_nil _ _ _ _ _ | exact Kd.Q_nil _ _ _ _ _ | exact Kd.S_nil _ _ _ _ _⟩, ⟨zh BK210⟩, ⟨zs1 HB GE210⟩⟩
 case round =>
  clear H'
  try clear c1
  try clear p2
  try clear c3
  try clear c4
  try clear c5
  try clear hcz6_0 hcz6_1 hcz6_2 hcz6_3 hcz6_4 hfz6_0 hfz6_1 hfz6_2 hfz6_3 hfz6_4
  obtain ⟨x5_1, x14_1, rfl, HA, HK1, HO_5, BK210, HB⟩ := hrel
  cases gk with
  | zero => exact absurd HA.out (by simp [impl_HandPartOf.l0])
  | succ k1 =>
   have H := HA.out
   clear HA
   simp only [impl_HandPartOf.l0] at H
   by_cases c11 : x14_1 < (l1.length : Int)
   rotate_left
   ·rw [if_neg c11] at H
    have c11b0 : decide (x14_1 < (l1.length : Int)) = false := decide_eq_false c11
    clear c11
    obtain rfl := Option.some.inj H
    go_wp2
    go_ret
    exact ⟨_, ze, zr HO_5, zs1 HB GE210⟩
   rw [if_pos c11] at H
   have c11b0 : decide (x14_1 < (l1.length : Int)) = true := decide_eq_true c11
   clear c11
   by_cases c12 : 0 ≤ x14_1
   rotate_left
   ·rw [if_neg c12] at H
    exact absurd H (by simp)
   rw [if_pos c12] at H
   have c12b0 : decide (0 ≤ x14_1) = true := decide_eq_true c12
   clear c12
   by_cases c13 : x14_1 < (l1.length : Int)
   rotate_left
   ·rw [if_neg c13] at H
    exact absurd H (by simp)
   rw [if_pos c13] at H
   have c13b0 : decide (x14_1 < (l1.length : Int)) = true := decide_eq_true c13
   clear c13
   replace H := zbd H; obtain ⟨t217, A14, H⟩ := H
   by_cases c15 : t217 = true
   rotate_left
   ·replace c15 := Bool.eq_false_iff.mpr c15
    subst c15
    have H1 : (impl_HandPartOf.l0 k1 x5_1 l1 (l1.length : Int) (wrap64 (x14_1 + 1)) a0_0 a0_1 a0_2 a0_3 a0_4) = some r := by rw [if_neg (show ¬ (false = true) by decide)] at H; exact H
    clear H
    have H := H1
    clear H1
    have H' := zA H
    clear H
    have p215 : 0 ≤ (x14_1 : Int) := za
    have q215 : x14_1 < (l1.length : Int) := za
    obtain ⟨ad215, e215, hx215_0, hx215_1, hx215_2, hx215_3, hx215_4, hx215_5⟩ := at_T41 HR1.out x14_1 p215 q215
    cases e215
    replace hx215_0 := zx HB hx215_0
    replace hx215_1 := zx HB hx215_1
    replace hx215_2 := zx HB hx215_2
    replace hx215_3 := zx HB hx215_3
    replace hx215_4 := zx HB hx215_4
    replace hx215_5 := zx HB hx215_5
    replace p215 := eq_true p215
    replace q215 := eq_true q215
    go_wp2_with (first | ((with_reducible refine gate_dst (N := 7) rfl ?_); refine zbx 7 #[.int .i64 0, .int .i64 0, .int .i64 0, .int .i64 0, .int .i64 0, .int .i64 0] 41 ?_; intro gb216 hg w40 hbox hb; have BK216 := zA hbox; have GW216 := zgs hg (zs1 HB GE210); have GE216 := zgs hg (zs1 HB GE210); have NB210_216 := zne hg BK210; have NB216_210 := znf hg BK210; replace HO_5 := zA (Kd.R_below (Kd.R_elderB (zr HO_5) gb216 (Nat.le_of_eq hg.symm)) hb); replace BK210 := zb BK210 hb; replace HB := zE (zs1 HB GE210) hb; clear hb hbox hg; have hnb41 := NB216_210.out; have hnc41 := NB210_216.out; obtain ⟨hcz42_0, hcz42_1, hcz42_2, hcz42_3, hcz42_4, hcz42_5⟩ := zd6 BK216; obtain ⟨hfz42_0, hfz42_1, hfz42_2, hfz42_3, hfz42_4, hfz42_5⟩ := zn6 BK216) | ((with_reducible refine gate_callee (f := 92) rfl ?_); refine zgl Try.func92 #[.agg #[.int .i64 ((rd_T41 l1 x14_1).f0), .int .i64 ((rd_T41 l1 x14_1).f1), .int .i64 ((rd_T41 l1 x14_1).f2), .int .i64 ((rd_T41 l1 x14_1).f3), .int .i64 ((rd_T41 l1 x14_1).f4), .int .i64 ((rd_T41 l1 x14_1).f5)]] ?_; (with_reducible refine (impl_handBox.calls ((rd_T41 l1 x14_1).f0) ((rd_T41 l1 x14_1).f1) ((rd_T41 l1 x14_1).f2) ((rd_T41 l1 x14_1).f3) ((rd_T41 l1 x14_1).f4) ((rd_T41 l1 x14_1).f5) false _ A14.out).mono ?_); rintro e w43 ⟨rfl, hb⟩; refine ⟨_, rfl, ?_⟩; replace HO_5 := zA (Kd.R_below (by (with_reducible repeat (first | apply Kd.R_alloc | apply Kd.R_drewN | apply Kd.R_drew)); exact (Kd.R_mono (Kd.R_far (p := ⟨gb216, 5, none⟩) (Kd.R_far (p := ⟨gb216, 4, none⟩) (Kd.R_far (p := ⟨gb216, 3, none⟩) (Kd.R_far (p := ⟨gb216, 2, none⟩) (Kd.R_far (p := ⟨gb216, 1, none⟩) (Kd.R_far (p := ⟨gb216, 0, none⟩) (Kd.R_mono HO_5.out (fun k_ hk => (⟨hk, hk.2⟩ : _ ∧ k_ ≠ gb216))) (fun _ hk => hk.2) (.int .i64 ((rd_T41 l1 x14_1).f0))) (fun _ hk => hk.2) (.int .i64 ((rd_T41 l1 x14_1).f1))) (fun _ hk => hk.2) (.int .i64 ((rd_T41 l1 x14_1).f2))) (fun _ hk => hk.2) (.int .i64 ((rd_T41 l1 x14_1).f3))) (fun _ hk => hk.2) (.int .i64 ((rd_T41 l1 x14_1).f4))) (fun _ hk => hk.2) (.int .i64 ((rd_T41 l1 x14_1).f5))) (fun _ h_ => h_.1))) hb); replace BK210 := zA (blk_below (g := gb210) (o := .cells #[.string a0_0, .int .i64 a0_1, .int .i64 a0_2, .int .i64 a0_3, .int .i64 a0_4] 55 (0, 0)) (zpf BK210 NB210_216) hb); replace BK216 := zA (blk_below (g := gb216) (o := .cells #[.int .i64 ((rd_T41 l1 x14_1).f0), .int .i64 ((rd_T41 l1 x14_1).f1), .int .i64 ((rd_T41 l1 x14_1).f2), .int .i64 ((rd_T41 l1 x14_1).f3), .int .i64 ((rd_T41 l1 x14_1).f4), .int .i64 ((rd_T41 l1 x14_1).f5)] 41 (0, 0)) (zpb BK216) hb); replace HB := zE (zs2 HB GE210 GE216) hb; (try clear hb); (try clear hb2); (try clear hk); (try clear hi)))
    go_roundg k1
    case measure => have := HK1.out; omega
    case rel => exact ⟨(x5_1), (wrap64 (x14_1 + 1)), zi, H', ⟨by have := HK1.out; omega⟩, ⟨by (with_reducible repeat (first | apply Kd.R_alloc | apply Kd.R_drewN | apply Kd.R_drew)); exact Kd.R_mono HO_5.out (fun _ hk => trivial)⟩, ⟨zh BK210⟩, ⟨zs2 HB GE210 GE216⟩⟩
   subst c15
   have H1 : ((impl_within.f ((rd_T41 l1 x14_1).f0) (wrap64 (a0_1 - 1)) (wrap64 (a0_3 + 1))).bind fun t218 => (if t218 = true then ((impl_within.f ((rd_T41 l1 x14_1).f1) (wrap64 (a0_2 - 1)) (wrap64 (a0_4 + 1))).bind fun t219 => (if t219 = true then (if x5_1.length < 2932031007402 then (impl_HandPartOf.l0 k1 (x5_1 ++ [(⟨(rd_T41 l1 x14_1).f0, (rd_T41 l1 x14_1).f1, (rd_T41 l1 x14_1).f2, (rd_T41 l1 x14_1).f3, (rd_T41 l1 x14_1).f4, (rd_T41 l1 x14_1).f5⟩ : S41)]) l1 (l1.length : Int) (wrap64 (x14_1 + 1)) a0_0 a0_1 a0_2 a0_3 a0_4) else (none)) else (impl_HandPartOf.l0 k1 x5_1 l1 (l1.length : Int) (wrap64 (x14_1 + 1)) a0_0 a0_1 a0_2 a0_3 a0_4))) else (impl_HandPartOf.l0 k1 x5_1 l1 (l1.length : Int) (wrap64 (x14_1 + 1)) a0_0 a0_1 a0_2 a0_3 a0_4))) = some r := by rw [if_pos rfl] at H; exact H
   clear H
   have H := H1
   clear H1
   replace H := zbd H; obtain ⟨t218, A16, H⟩ := H
   by_cases c17 : t218 = true
   rotate_left
   ·replace c17 := Bool.eq_false_iff.mpr c17
    subst c17
    have H1 : (impl_HandPartOf.l0 k1 x5_1 l1 (l1.length : Int) (wrap64 (x14_1 + 1)) a0_0 a0_1 a0_2 a0_3 a0_4) = some r := by rw [if_neg (show ¬ (false = true) by decide)] at H; exact H
    clear H
    have H := H1
    clear H1
    have H' := zA H
    clear H
    have p215 : 0 ≤ (x14_1 : Int) := za
    have q215 : x14_1 < (l1.length : Int) := za
    obtain ⟨ad215, e215, hx215_0, hx215_1, hx215_2, hx215_3, hx215_4, hx215_5⟩ := at_T41 HR1.out x14_1 p215 q215
    cases e215
    replace hx215_0 := zx HB hx215_0
    replace hx215_1 := zx HB hx215_1
    replace hx215_2 := zx HB hx215_2
    replace hx215_3 := zx HB hx215_3
    replace hx215_4 := zx HB hx215_4
    replace hx215_5 := zx HB hx215_5
    replace p215 := eq_true p215
    replace q215 := eq_true q215
    go_wp2_with (first | ((with_reducible refine gate_dst (N := 7) rfl ?_); refine zbx 7 #[.int .i64 0, .int .i64 0, .int .i64 0, .int .i64 0, .int .i64 0, .int .i64 0] 41 ?_; intro gb216 hg w34 hbox hb; have BK216 := zA hbox; have GW216 := zgs hg (zs1 HB GE210); have GE216 := zgs hg (zs1 HB GE210); have NB210_216 := zne hg BK210; have NB216_210 := znf hg BK210; replace HO_5 := zA (Kd.R_below (Kd.R_elderB (zr HO_5) gb216 (Nat.le_of_eq hg.symm)) hb); replace BK210 := zb BK210 hb; replace HB := zE (zs1 HB GE210) hb; clear hb hbox hg; have hnb35 := NB216_210.out; have hnc35 := NB210_216.out; obtain ⟨hcz36_0, hcz36_1, hcz36_2, hcz36_3, hcz36_4, hcz36_5⟩ := zd6 BK216; obtain ⟨hfz36_0, hfz36_1, hfz36_2, hfz36_3, hfz36_4, hfz36_5⟩ := zn6 BK216) | ((with_reducible refine gate_callee (f := 92) rfl ?_); refine zgl Try.func92 #[.agg #[.int .i64 ((rd_T41 l1 x14_1).f0), .int .i64 ((rd_T41 l1 x14_1).f1), .int .i64 ((rd_T41 l1 x14_1).f2), .int .i64 ((rd_T41 l1 x14_1).f3), .int .i64 ((rd_T41 l1 x14_1).f4), .int .i64 ((rd_T41 l1 x14_1).f5)]] ?_; (with_reducible refine (impl_handBox.calls ((rd_T41 l1 x14_1).f0) ((rd_T41 l1 x14_1).f1) ((rd_T41 l1 x14_1).f2) ((rd_T41 l1 x14_1).f3) ((rd_T41 l1 x14_1).f4) ((rd_T41 l1 x14_1).f5) true _ A14.out).mono ?_); rintro e w37 ⟨rfl, hb⟩; refine ⟨_, rfl, ?_⟩; replace HO_5 := zA (Kd.R_below (by (with_reducible repeat (first | apply Kd.R_alloc | apply Kd.R_drewN | apply Kd.R_drew)); exact (Kd.R_mono (Kd.R_far (p := ⟨gb216, 5, none⟩) (Kd.R_far (p := ⟨gb216, 4, none⟩) (Kd.R_far (p := ⟨gb216, 3, none⟩) (Kd.R_far (p := ⟨gb216, 2, none⟩) (Kd.R_far (p := ⟨gb216, 1, none⟩) (Kd.R_far (p := ⟨gb216, 0, none⟩) (Kd.R_mono HO_5.out (fun k_ hk => (⟨hk, hk.2⟩ : _ ∧ k_ ≠ gb216))) (fun _ hk => hk.2) (.int .i64 ((rd_T41 l1 x14_1).f0))) (fun _ hk => hk.2) (.int .i64 ((rd_T41 l1 x14_1).f1))) (fun _ hk => hk.2) (.int .i64 ((rd_T41 l1 x14_1).f2))) (fun _ hk => hk.2) (.int .i64 ((rd_T41 l1 x14_1).f3))) (fun _ hk => hk.2) (.int .i64 ((rd_T41 l1 x14_1).f4))) (fun _ hk => hk.2) (.int .i64 ((rd_T41 l1 x14_1).f5))) (fun _ h_ => h_.1))) hb); replace BK210 := zA (blk_below (g := gb210) (o := .cells #[.string a0_0, .int .i64 a0_1, .int .i64 a0_2, .int .i64 a0_3, .int .i64 a0_4] 55 (0, 0)) (zpf BK210 NB210_216) hb); replace BK216 := zA (blk_below (g := gb216) (o := .cells #[.int .i64 ((rd_T41 l1 x14_1).f0), .int .i64 ((rd_T41 l1 x14_1).f1), .int .i64 ((rd_T41 l1 x14_1).f2), .int .i64 ((rd_T41 l1 x14_1).f3), .int .i64 ((rd_T41 l1 x14_1).f4), .int .i64 ((rd_T41 l1 x14_1).f5)] 41 (0, 0)) (zpb BK216) hb); replace HB := zE (zs2 HB GE210 GE216) hb; (try clear hb); (try clear hb2); (try clear hk); (try clear hi); obtain ⟨hcz38_0, hcz38_1, hcz38_2, hcz38_3, hcz38_4, hcz38_5⟩ := zd6 BK216; obtain ⟨hfz38_0, hfz38_1, hfz38_2, hfz38_3, hfz38_4, hfz38_5⟩ := zn6 BK216; obtain ⟨hcz39_0, hcz39_1, hcz39_2, hcz39_3, hcz39_4⟩ := zd5 BK210; obtain ⟨hfz39_0, hfz39_1, hfz39_2, hfz39_3, hfz39_4⟩ := zn5 BK210) | (go_at_call 93; (with_reducible refine (impl_within.calls ((rd_T41 l1 x14_1).f0) (wrap64 (a0_1 - 1)) (wrap64 (a0_3 + 1)) false _ A16.out).mono ?_); rintro e w' ⟨rfl, ⟨nd, rfl⟩⟩))
    go_roundg k1
    case measure => have := HK1.out; omega
    case rel => exact ⟨(x5_1), (wrap64 (x14_1 + 1)), zi, H', ⟨by have := HK1.out; omega⟩, ⟨by (with_reducible repeat (first | apply Kd.R_alloc | apply Kd.R_drewN | apply Kd.R_drew)); exact Kd.R_mono HO_5.out (fun _ hk => trivial)⟩, ⟨zh BK210⟩, ⟨zs2 HB GE210 GE216⟩⟩
   subst c17
   have H1 : ((impl_within.f ((rd_T41 l1 x14_1).f1) (wrap64 (a0_2 - 1)) (wrap64 (a0_4 + 1))).bind fun t219 => (if t219 = true then (if x5_1.length < 2932031007402 then (impl_HandPartOf.l0 k1 (x5_1 ++ [(⟨(rd_T41 l1 x14_1).f0, (rd_T41 l1 x14_1).f1, (rd_T41 l1 x14_1).f2, (rd_T41 l1 x14_1).f3, (rd_T41 l1 x14_1).f4, (rd_T41 l1 x14_1).f5⟩ : S41)]) l1 (l1.length : Int) (wrap64 (x14_1 + 1)) a0_0 a0_1 a0_2 a0_3 a0_4) else (none)) else (impl_HandPartOf.l0 k1 x5_1 l1 (l1.length : Int) (wrap64 (x14_1 + 1)) a0_0 a0_1 a0_2 a0_3 a0_4))) = some r := by rw [if_pos rfl] at H; exact H
   clear H
   have H := H1
   clear H1
   replace H := zbd H; obtain ⟨t219, A18, H⟩ := H
   by_cases c19 : t219 = true
   rotate_left
   ·replace c19 := Bool.eq_false_iff.mpr c19
    subst c19
    have H1 : (impl_HandPartOf.l0 k1 x5_1 l1 (l1.length : Int) (wrap64 (x14_1 + 1)) a0_0 a0_1 a0_2 a0_3 a0_4) = some r := by rw [if_neg (show ¬ (false = true) by decide)] at H; exact H
    clear H
    have H := H1
    clear H1
    have H' := zA H
    clear H
    have p215 : 0 ≤ (x14_1 : Int) := za
    have q215 : x14_1 < (l1.length : Int) := za
    obtain ⟨ad215, e215, hx215_0, hx215_1, hx215_2, hx215_3, hx215_4, hx215_5⟩ := at_T41 HR1.out x14_1 p215 q215
    cases e215
    replace hx215_0 := zx HB hx215_0
    replace hx215_1 := zx HB hx215_1
    replace hx215_2 := zx HB hx215_2
    replace hx215_3 := zx HB hx215_3
    replace hx215_4 := zx HB hx215_4
    replace hx215_5 := zx HB hx215_5
    replace p215 := eq_true p215
    replace q215 := eq_true q215
    go_wp2_with (first | ((with_reducible refine gate_dst (N := 7) rfl ?_); refine zbx 7 #[.int .i64 0, .int .i64 0, .int .i64 0, .int .i64 0, .int .i64 0, .int .i64 0] 41 ?_; intro gb216 hg w28 hbox hb; have BK216 := zA hbox; have GW216 := zgs hg (zs1 HB GE210); have GE216 := zgs hg (zs1 HB GE210); have NB210_216 := zne hg BK210; have NB216_210 := znf hg BK210; replace HO_5 := zA (Kd.R_below (Kd.R_elderB (zr HO_5) gb216 (Nat.le_of_eq hg.symm)) hb); replace BK210 := zb BK210 hb; replace HB := zE (zs1 HB GE210) hb; clear hb hbox hg; have hnb29 := NB216_210.out; have hnc29 := NB210_216.out; obtain ⟨hcz30_0, hcz30_1, hcz30_2, hcz30_3, hcz30_4, hcz30_5⟩ := zd6 BK216; obtain ⟨hfz30_0, hfz30_1, hfz30_2, hfz30_3, hfz30_4, hfz30_5⟩ := zn6 BK216) | ((with_reducible refine gate_callee (f := 92) rfl ?_); refine zgl Try.func92 #[.agg #[.int .i64 ((rd_T41 l1 x14_1).f0), .int .i64 ((rd_T41 l1 x14_1).f1), .int .i64 ((rd_T41 l1 x14_1).f2), .int .i64 ((rd_T41 l1 x14_1).f3), .int .i64 ((rd_T41 l1 x14_1).f4), .int .i64 ((rd_T41 l1 x14_1).f5)]] ?_; (with_reducible refine (impl_handBox.calls ((rd_T41 l1 x14_1).f0) ((rd_T41 l1 x14_1).f1) ((rd_T41 l1 x14_1).f2) ((rd_T41 l1 x14_1).f3) ((rd_T41 l1 x14_1).f4) ((rd_T41 l1 x14_1).f5) true _ A14.out).mono ?_); rintro e w31 ⟨rfl, hb⟩; refine ⟨_, rfl, ?_⟩; replace HO_5 := zA (Kd.R_below (by (with_reducible repeat (first | apply Kd.R_alloc | apply Kd.R_drewN | apply Kd.R_drew)); exact (Kd.R_mono (Kd.R_far (p := ⟨gb216, 5, none⟩) (Kd.R_far (p := ⟨gb216, 4, none⟩) (Kd.R_far (p := ⟨gb216, 3, none⟩) (Kd.R_far (p := ⟨gb216, 2, none⟩) (Kd.R_far (p := ⟨gb216, 1, none⟩) (Kd.R_far (p := ⟨gb216, 0, none⟩) (Kd.R_mono HO_5.out (fun k_ hk => (⟨hk, hk.2⟩ : _ ∧ k_ ≠ gb216))) (fun _ hk => hk.2) (.int .i64 ((rd_T41 l1 x14_1).f0))) (fun _ hk => hk.2) (.int .i64 ((rd_T41 l1 x14_1).f1))) (fun _ hk => hk.2) (.int .i64 ((rd_T41 l1 x14_1).f2))) (fun _ hk => hk.2) (.int .i64 ((rd_T41 l1 x14_1).f3))) (fun _ hk => hk.2) (.int .i64 ((rd_T41 l1 x14_1).f4))) (fun _ hk => hk.2) (.int .i64 ((rd_T41 l1 x14_1).f5))) (fun _ h_ => h_.1))) hb); replace BK210 := zA (blk_below (g := gb210) (o := .cells #[.string a0_0, .int .i64 a0_1, .int .i64 a0_2, .int .i64 a0_3, .int .i64 a0_4] 55 (0, 0)) (zpf BK210 NB210_216) hb); replace BK216 := zA (blk_below (g := gb216) (o := .cells #[.int .i64 ((rd_T41 l1 x14_1).f0), .int .i64 ((rd_T41 l1 x14_1).f1), .int .i64 ((rd_T41 l1 x14_1).f2), .int .i64 ((rd_T41 l1 x14_1).f3), .int .i64 ((rd_T41 l1 x14_1).f4), .int .i64 ((rd_T41 l1 x14_1).f5)] 41 (0, 0)) (zpb BK216) hb); replace HB := zE (zs2 HB GE210 GE216) hb; (try clear hb); (try clear hb2); (try clear hk); (try clear hi); obtain ⟨hcz32_0, hcz32_1, hcz32_2, hcz32_3, hcz32_4, hcz32_5⟩ := zd6 BK216; obtain ⟨hfz32_0, hfz32_1, hfz32_2, hfz32_3, hfz32_4, hfz32_5⟩ := zn6 BK216; obtain ⟨hcz33_0, hcz33_1, hcz33_2, hcz33_3, hcz33_4⟩ := zd5 BK210; obtain ⟨hfz33_0, hfz33_1, hfz33_2, hfz33_3, hfz33_4⟩ := zn5 BK210) | (go_at_call 93; (with_reducible refine (impl_within.calls ((rd_T41 l1 x14_1).f0) (wrap64 (a0_1 - 1)) (wrap64 (a0_3 + 1)) true _ A16.out).mono ?_); rintro e w' ⟨rfl, ⟨nd, rfl⟩⟩) | (go_at_call 93; (with_reducible refine (impl_within.calls ((rd_T41 l1 x14_1).f1) (wrap64 (a0_2 - 1)) (wrap64 (a0_4 + 1)) false _ A18.out).mono ?_); rintro e w' ⟨rfl, ⟨nd, rfl⟩⟩))
    go_roundg k1
    case measure => have := HK1.out; omega
    case rel => exact ⟨(x5_1), (wrap64 (x14_1 + 1)), zi, H', ⟨by have := HK1.out; omega⟩, ⟨by (with_reducible repeat (first | apply Kd.R_alloc | apply Kd.R_drewN | apply Kd.R_drew)); exact Kd.R_mono HO_5.out (fun _ hk => trivial)⟩, ⟨zh BK210⟩, ⟨zs2 HB GE210 GE216⟩⟩
   subst c19
   have H1 : (if x5_1.length < 2932031007402 then (impl_HandPartOf.l0 k1 (x5_1 ++ [(⟨(rd_T41 l1 x14_1).f0, (rd_T41 l1 x14_1).f1, (rd_T41 l1 x14_1).f2, (rd_T41 l1 x14_1).f3, (rd_T41 l1 x14_1).f4, (rd_T41 l1 x14_1).f5⟩ : S41)]) l1 (l1.length : Int) (wrap64 (x14_1 + 1)) a0_0 a0_1 a0_2 a0_3 a0_4) else (none)) = some r := by rw [if_pos rfl] at H; exact H
   clear H
   have H := H1
   clear H1
   by_cases c20 : x5_1.length < 2932031007402
   rotate_left
   ·rw [if_neg c20] at H
    exact absurd H (by simp)
   rw [if_pos c20] at H
   have LMc20 := zA c20
   clear c20
   obtain ⟨y220, hy220⟩ : ∃ y_ : List (S41), y_ = (x5_1 ++ [(⟨(rd_T41 l1 x14_1).f0, (rd_T41 l1 x14_1).f1, (rd_T41 l1 x14_1).f2, (rd_T41 l1 x14_1).f3, (rd_T41 l1 x14_1).f4, (rd_T41 l1 x14_1).f5⟩ : S41)]) := ⟨_, rfl⟩
   replace H : (impl_HandPartOf.l0 k1 y220 l1 (l1.length : Int) (wrap64 (x14_1 + 1)) a0_0 a0_1 a0_2 a0_3 a0_4) = some r := by first | (rw [hy220]; with_reducible exact H) | (have H2_ := (Option.bind_some _ _).symm.trans H; rw [hy220]; with_reducible exact H2_) | (have H2_ := (Option.bind_some _ _).symm.trans H; with_reducible exact H2_) | with_reducible exact H | (rw [hy220]; exact H) | exact H
   have Ny220 := zA hy220
   clear hy220
   have H' := zA H
   clear H
   have p215 : 0 ≤ (x14_1 : Int) := za
   have q215 : x14_1 < (l1.length : Int) := za
   obtain ⟨ad215, e215, hx215_0, hx215_1, hx215_2, hx215_3, hx215_4, hx215_5⟩ := at_T41 HR1.out x14_1 p215 q215
   cases e215
   replace hx215_0 := zx HB hx215_0
   replace hx215_1 := zx HB hx215_1
   replace hx215_2 := zx HB hx215_2
   replace hx215_3 := zx HB hx215_3
   replace hx215_4 := zx HB hx215_4
   replace hx215_5 := zx HB hx215_5
   replace p215 := eq_true p215
   replace q215 := eq_true q215
   go_wp2_with (first | ((with_reducible refine gate_dst (N := 7) rfl ?_); refine zbx 7 #[.int .i64 0, .int .i64 0, .int .i64 0, .int .i64 0, .int .i64 0, .int .i64 0] 41 ?_; intro gb216 hg w21 hbox hb; have BK216 := zA hbox; have GW216 := zgs hg (zs1 HB GE210); have GE216 := zgs hg (zs1 HB GE210); have NB210_216 := zne hg BK210; have NB216_210 := znf hg BK210; replace HO_5 := zA (Kd.R_below (Kd.R_elderB (zr HO_5) gb216 (Nat.le_of_eq hg.symm)) hb); replace BK210 := zb BK210 hb; replace HB := zE (zs1 HB GE210) hb; clear hb hbox hg; have hnb22 := NB216_210.out; have hnc22 := NB210_216.out; obtain ⟨hcz23_0, hcz23_1, hcz23_2, hcz23_3, hcz23_4, hcz23_5⟩ := zd6 BK216; obtain ⟨hfz23_0, hfz23_1, hfz23_2, hfz23_3, hfz23_4, hfz23_5⟩ := zn6 BK216) | ((with_reducible refine gate_callee (f := 92) rfl ?_); refine zgl Try.func92 #[.agg #[.int .i64 ((rd_T41 l1 x14_1).f0), .int .i64 ((rd_T41 l1 x14_1).f1), .int .i64 ((rd_T41 l1 x14_1).f2), .int .i64 ((rd_T41 l1 x14_1).f3), .int .i64 ((rd_T41 l1 x14_1).f4), .int .i64 ((rd_T41 l1 x14_1).f5)]] ?_; (with_reducible refine (impl_handBox.calls ((rd_T41 l1 x14_1).f0) ((rd_T41 l1 x14_1).f1) ((rd_T41 l1 x14_1).f2) ((rd_T41 l1 x14_1).f3) ((rd_T41 l1 x14_1).f4) ((rd_T41 l1 x14_1).f5) true _ A14.out).mono ?_); rintro e w24 ⟨rfl, hb⟩; refine ⟨_, rfl, ?_⟩; replace HO_5 := zA (Kd.R_below (by (with_reducible repeat (first | apply Kd.R_alloc | apply Kd.R_drewN | apply Kd.R_drew)); exact (Kd.R_mono (Kd.R_far (p := ⟨gb216, 5, none⟩) (Kd.R_far (p := ⟨gb216, 4, none⟩) (Kd.R_far (p := ⟨gb216, 3, none⟩) (Kd.R_far (p := ⟨gb216, 2, none⟩) (Kd.R_far (p := ⟨gb216, 1, none⟩) (Kd.R_far (p := ⟨gb216, 0, none⟩) (Kd.R_mono HO_5.out (fun k_ hk => (⟨hk, hk.2⟩ : _ ∧ k_ ≠ gb216))) (fun _ hk => hk.2) (.int .i64 ((rd_T41 l1 x14_1).f0))) (fun _ hk => hk.2) (.int .i64 ((rd_T41 l1 x14_1).f1))) (fun _ hk => hk.2) (.int .i64 ((rd_T41 l1 x14_1).f2))) (fun _ hk => hk.2) (.int .i64 ((rd_T41 l1 x14_1).f3))) (fun _ hk => hk.2) (.int .i64 ((rd_T41 l1 x14_1).f4))) (fun _ hk => hk.2) (.int .i64 ((rd_T41 l1 x14_1).f5))) (fun _ h_ => h_.1))) hb); replace BK210 := zA (blk_below (g := gb210) (o := .cells #[.string a0_0, .int .i64 a0_1, .int .i64 a0_2, .int .i64 a0_3, .int .i64 a0_4] 55 (0, 0)) (zpf BK210 NB210_216) hb); replace BK216 := zA (blk_below (g := gb216) (o := .cells #[.int .i64 ((rd_T41 l1 x14_1).f0), .int .i64 ((rd_T41 l1 x14_1).f1), .int .i64 ((rd_T41 l1 x14_1).f2), .int .i64 ((rd_T41 l1 x14_1).f3), .int .i64 ((rd_T41 l1 x14_1).f4), .int .i64 ((rd_T41 l1 x14_1).f5)] 41 (0, 0)) (zpb BK216) hb); replace HB := zE (zs2 HB GE210 GE216) hb; (try clear hb); (try clear hb2); (try clear hk); (try clear hi); obtain ⟨hcz25_0, hcz25_1, hcz25_2, hcz25_3, hcz25_4, hcz25_5⟩ := zd6 BK216; obtain ⟨hfz25_0, hfz25_1, hfz25_2, hfz25_3, hfz25_4, hfz25_5⟩ := zn6 BK216; obtain ⟨hcz26_0, hcz26_1, hcz26_2, hcz26_3, hcz26_4⟩ := zd5 BK210; obtain ⟨hfz26_0, hfz26_1, hfz26_2, hfz26_3, hfz26_4⟩ := zn5 BK210) | (go_at_call 93; (with_reducible refine (impl_within.calls ((rd_T41 l1 x14_1).f0) (wrap64 (a0_1 - 1)) (wrap64 (a0_3 + 1)) true _ A16.out).mono ?_); rintro e w' ⟨rfl, ⟨nd, rfl⟩⟩) | (go_at_call 93; (with_reducible refine (impl_within.calls ((rd_T41 l1 x14_1).f1) (wrap64 (a0_2 - 1)) (wrap64 (a0_4 + 1)) true _ A18.out).mono ?_); rintro e w' ⟨rfl, ⟨nd, rfl⟩⟩) | ((with_reducible refine gate_builtin (b := .append) (xs := #[.tmp 42, .tmp 44]) rfl ?_); at_builtin; refine Kd.R_append k41 (w0 := w) w.heap.size rfl (.tmp 42) (.tmp 44) 29 41 (.agg #[(.int .i64 0), (.int .i64 0), (.int .i64 0), (.int .i64 0), (.int .i64 0), (.int .i64 0)]) 48 rfl Try.underlying29 info41 rfl (by decide) (by omega) u5 x5_1 (⟨(rd_T41 l1 x14_1).f0, (rd_T41 l1 x14_1).f1, (rd_T41 l1 x14_1).f2, (rd_T41 l1 x14_1).f3, (rd_T41 l1 x14_1).f4, (rd_T41 l1 x14_1).f5⟩ : S41) [.int .i64 ((rd_T41 l1 x14_1).f0), .int .i64 ((rd_T41 l1 x14_1).f1), .int .i64 ((rd_T41 l1 x14_1).f2), .int .i64 ((rd_T41 l1 x14_1).f3), .int .i64 ((rd_T41 l1 x14_1).f4), .int .i64 ((rd_T41 l1 x14_1).f5)] (fun k_ => k_ ≠ gb216) (fun _ => False) rfl rfl ?aP (fun _ hk => hk.elim) ?aF ?aO ?aB ?aS ?aL ?_; (case aP => exact k41_mkM _ _ _ (⟨(rd_T41 l1 x14_1).f0, (rd_T41 l1 x14_1).f1, (rd_T41 l1 x14_1).f2, (rd_T41 l1 x14_1).f3, (rd_T41 l1 x14_1).f4, (rd_T41 l1 x14_1).f5⟩ : S41)); (case aB => exact (zs2 HB GE210 GE216)); (case aF => exact (fun k_ hk => Kd.freshB (g := gb216) (o := .cells #[.int .i64 ((rd_T41 l1 x14_1).f0), .int .i64 ((rd_T41 l1 x14_1).f1), .int .i64 ((rd_T41 l1 x14_1).f2), .int .i64 ((rd_T41 l1 x14_1).f3), .int .i64 ((rd_T41 l1 x14_1).f4), .int .i64 ((rd_T41 l1 x14_1).f5)] 41 (0, 0)) (zh BK216) k_ hk)); (case aO => exact (by (with_reducible repeat (first | apply Kd.R_alloc | apply Kd.R_drewN | apply Kd.R_drew)); exact Kd.R_mono HO_5.out (fun _ hk => hk.2))); (case aS => exact (below_size (zs2 HB GE210 GE216))); (case aL => have := LMc20.out; omega); intro v221 w27 ho hb hg hat; rw [← Ny220.out] at ho; have HO222 := zA (ho); replace BK210 := zA (blk_grown (g := gb210) (o := .cells #[.string a0_0, .int .i64 a0_1, .int .i64 a0_2, .int .i64 a0_3, .int .i64 a0_4] 55 (0, 0)) (zh BK210) hg (Kd.R_ne HO_5.out BK210.out (by decide))); replace BK216 := zA (blk_grown (g := gb216) (o := .cells #[.int .i64 ((rd_T41 l1 x14_1).f0), .int .i64 ((rd_T41 l1 x14_1).f1), .int .i64 ((rd_T41 l1 x14_1).f2), .int .i64 ((rd_T41 l1 x14_1).f3), .int .i64 ((rd_T41 l1 x14_1).f4), .int .i64 ((rd_T41 l1 x14_1).f5)] 41 (0, 0)) (zh BK216) hg (Kd.R_away HO_5.out (fun _ hk => hk.2))); replace HB := zA (hb); clear HO_5; clear ho hb hg hat))
   go_roundg k1
   case measure => have := HK1.out; omega
   case rel => exact ⟨(y220), (wrap64 (x14_1 + 1)), zi, H', ⟨by have := HK1.out; omega⟩, ⟨by (with_reducible repeat (first | apply Kd.R_alloc | apply Kd.R_drewN | apply Kd.R_drew)); exact Kd.R_mono HO222.out (fun _ hk => trivial)⟩, ⟨zh BK210⟩, ⟨zs2 HB GE210 GE216⟩⟩
def impl_HandWho.l0 : Nat → List (S41) → List ByteArray → List (S55) → Int → Int → Option (List ByteArray)
 | 0, _, _, _, _, _ => none
 | k + 1, x1, x5, x8, x9, x10 => if x10 < x9 then (if 0 ≤ x10 then (if x10 < (x8.length : Int) then ((impl_HandPartOf.f k ((rd_T55 x8 x10).f0) ((rd_T55 x8 x10).f1) ((rd_T55 x8 x10).f2) ((rd_T55 x8 x10).f3) ((rd_T55 x8 x10).f4) x1).bind fun t225 => (if (t225.length : Int) > 0 then (if x5.length < 8796093022208 then (impl_HandWho.l0 k x1 (x5 ++ [(rd_T55 x8 x10).f0]) x8 x9 (wrap64 (x10 + 1))) else (none)) else (impl_HandWho.l0 k x1 x5 x8 x9 (wrap64 (x10 + 1))))) else (none)) else (none)) else (some x5)
def impl_HandWho.f (k : Nat) (l0 : List (S55)) (l1 : List (S41)) : Option (List ByteArray) := impl_HandWho.l0 k l1 ([] : List ByteArray) l0 (l0.length : Int) 0
set_option maxHeartbeats 8000000 in
set_option maxRecDepth 100000 in
theorem impl_HandWho.calls (k : Nat) (A0 : Option Addr) (c0 : Nat) (l0 : List (S55)) (A1 : Option Addr) (c1 : Nat) (l1 : List (S41)) (r : List ByteArray) (w : World) (hr0 : Kd.C k55 w A0 l0.length l0) (hc0 : l0.length ≤ c0) (hr1 : Kd.C k41 w A1 l1.length l1) (hc1 : l1.length ≤ c1) (h : impl_HandWho.f k l0 l1 = some r) :
 Calls Try.prog 38 #[.slice A0 l0.length c0, .slice A1 l1.length c1] w fun e w' => ∃ v0_ : Value, e = .returned (v0_) ∧ Kd.R Kd.string 9 w' w.heap.size (fun _ => True) v0_ r ∧ Below w.heap.size w w' := by
 have hu55 := Try.underlying55
 have HR0 := zA hr0
 have HC0 := zA hc0
 clear hr0 hc0
 have HR1 := zA hr1
 have HC1 := zA hc1
 clear hr1 hc1
 have HB := zA (Below.refl w.heap.size w)
 have H : (impl_HandWho.l0 k l1 ([] : List ByteArray) l0 (l0.length : Int) 0) = some r := h
 clear h
 have H' := zA H
 clear H
 go_enter Try.func38, Try.ntmps38
 go_wp2
 go_loopg [5, 10] k (fun kq v5 v10 w' => ∃ (x5_1 : List ByteArray) (x10_1 : Int), v10 = .int .i64 x10_1 ∧ Aside0 (impl_HandWho.l0 kq l1 x5_1 l0 (l0.length : Int) x10_1 = some r) ∧ Aside0 (kq ≤ k) ∧ Aside0 (Kd.R Kd.string 9 w' w.heap.size (fun _ => True) v5 x5_1) ∧ Aside0 (Below w.heap.size w w'))
 case atStart => exact ⟨(([] : List ByteArray)), (0), zi, H', ⟨Nat.le_refl _⟩, ⟨by first | exact Kd.R_nil _ _ _ _ _ | exact Kd.N_nil _ _ _ _ _ | exact Kd.V_nil _ _ _ _ _ | exact Kd.Q_nil _ _ _ _ _ | exact Kd.S_nil _ _ _ _ _⟩, ⟨zs0 HB⟩⟩
 case round =>
  clear H'
  try clear c1
  try clear p2
  obtain ⟨x5_1, x10_1, rfl, HA, HK1, HO_5, HB⟩ := hrel
  cases gk with
  | zero => exact absurd HA.out (by simp [impl_HandWho.l0])
  | succ k1 =>
   have H := HA.out
   clear HA
   simp only [impl_HandWho.l0] at H
   by_cases c3 : x10_1 < (l0.length : Int)
   rotate_left
   ·rw [if_neg c3] at H
    have c3b0 : decide (x10_1 < (l0.length : Int)) = false := decide_eq_false c3
    clear c3
    obtain rfl := Option.some.inj H
    go_wp2
    go_ret
    exact ⟨_, ze, zr HO_5, zs0 HB⟩
   rw [if_pos c3] at H
   have c3b0 : decide (x10_1 < (l0.length : Int)) = true := decide_eq_true c3
   clear c3
   by_cases c4 : 0 ≤ x10_1
   rotate_left
   ·rw [if_neg c4] at H
    exact absurd H (by simp)
   rw [if_pos c4] at H
   have c4b0 : decide (0 ≤ x10_1) = true := decide_eq_true c4
   clear c4
   by_cases c5 : x10_1 < (l0.length : Int)
   rotate_left
   ·rw [if_neg c5] at H
    exact absurd H (by simp)
   rw [if_pos c5] at H
   have c5b0 : decide (x10_1 < (l0.length : Int)) = true := decide_eq_true c5
   clear c5
   replace H := zbd H; obtain ⟨t225, A6, H⟩ := H
   by_cases c7 : (t225.length : Int) > 0
   rotate_left
   ·rw [if_neg c7] at H
    have c7b0 : decide (0 < (t225.length : Int)) = false := decide_eq_false c7
    have c7b1 : decide (0 < t225.length) = false := decide_eq_false (by omega)
    clear c7
    have H' := zA H
    clear H
    have p223 : 0 ≤ (x10_1 : Int) := za
    have q223 : x10_1 < (l0.length : Int) := za
    obtain ⟨ad223, e223, hx223_0, hx223_1, hx223_2, hx223_3, hx223_4⟩ := at_T55 HR0.out x10_1 p223 q223
    cases e223
    replace hx223_0 := zx HB hx223_0
    replace hx223_1 := zx HB hx223_1
    replace hx223_2 := zx HB hx223_2
    replace hx223_3 := zx HB hx223_3
    replace hx223_4 := zx HB hx223_4
    replace p223 := eq_true p223
    replace q223 := eq_true q223
    go_wp2_with (first | ((with_reducible refine gate_dst (N := 7) rfl ?_); refine zbx 7 #[.string (⟨#[]⟩ : ByteArray), .int .i64 0, .int .i64 0, .int .i64 0, .int .i64 0] 55 ?_; intro gb224 hg w15 hbox hb; have BK224 := zA hbox; have GW224 := zgs hg (zs0 HB); have GE224 := zgs hg (zs0 HB); replace HO_5 := zA (Kd.R_below (zr HO_5) hb); replace HB := zE (zs0 HB) hb; clear hb hbox hg; obtain ⟨hcz16_0, hcz16_1, hcz16_2, hcz16_3, hcz16_4⟩ := zd5 BK224; obtain ⟨hfz16_0, hfz16_1, hfz16_2, hfz16_3, hfz16_4⟩ := zn5 BK224) | ((with_reducible refine gate_callee (f := 32) rfl ?_); refine zgl Try.func32 #[.agg #[.string ((rd_T55 l0 x10_1).f0), .int .i64 ((rd_T55 l0 x10_1).f1), .int .i64 ((rd_T55 l0 x10_1).f2), .int .i64 ((rd_T55 l0 x10_1).f3), .int .i64 ((rd_T55 l0 x10_1).f4)], .slice A1 l1.length c1] ?_; (with_reducible refine (impl_HandPartOf.calls k1 ((rd_T55 l0 x10_1).f0) ((rd_T55 l0 x10_1).f1) ((rd_T55 l0 x10_1).f2) ((rd_T55 l0 x10_1).f3) ((rd_T55 l0 x10_1).f4) _ _ l1 t225 _ ?side1 ?side2 A6.out).mono ?_); (case side1 => exact Kd.C_below HR1.out (zs1 HB GE224)); (case side2 => exact HC1.out); rintro e w17 ⟨v226, rfl, ho0, hb⟩; refine ⟨_, rfl, ?_⟩; have HO227 := zA (Kd.R_lower ho0 (below_size (zs1 HB GE224))); replace HO_5 := zA (Kd.R_below (zRf HO_5 BK224 (fun _ h_ => h_.1)) hb); replace BK224 := zA (blk_below (g := gb224) (o := .cells #[.string ((rd_T55 l0 x10_1).f0), .int .i64 ((rd_T55 l0 x10_1).f1), .int .i64 ((rd_T55 l0 x10_1).f2), .int .i64 ((rd_T55 l0 x10_1).f3), .int .i64 ((rd_T55 l0 x10_1).f4)] 55 (0, 0)) (zpb BK224) hb); replace HB := zE (zs1 HB GE224) hb; (try clear hb); (try clear hb2); (try clear hk); (try clear hi); (try clear ho0); obtain ⟨Ao18, co18, eo18⟩ := Kd.R_slice HO227.out; subst eo18))
    go_roundg k1
    case measure => have := HK1.out; omega
    case rel => exact ⟨(x5_1), (wrap64 (x10_1 + 1)), zi, H', ⟨by have := HK1.out; omega⟩, ⟨zr HO_5⟩, ⟨zs1 HB GE224⟩⟩
   rw [if_pos c7] at H
   have c7b0 : decide (0 < (t225.length : Int)) = true := decide_eq_true c7
   have c7b1 : decide (0 < t225.length) = true := decide_eq_true (by omega)
   clear c7
   by_cases c8 : x5_1.length < 8796093022208
   rotate_left
   ·rw [if_neg c8] at H
    exact absurd H (by simp)
   rw [if_pos c8] at H
   have LMc8 := zA c8
   clear c8
   obtain ⟨y228, hy228⟩ : ∃ y_ : List ByteArray, y_ = (x5_1 ++ [(rd_T55 l0 x10_1).f0]) := ⟨_, rfl⟩
   replace H : (impl_HandWho.l0 k1 l1 y228 l0 (l0.length : Int) (wrap64 (x10_1 + 1))) = some r := by first | (rw [hy228]; with_reducible exact H) | (have H2_ := (Option.bind_some _ _).symm.trans H; rw [hy228]; with_reducible exact H2_) | (have H2_ := (Option.bind_some _ _).symm.trans H; with_reducible exact H2_) | with_reducible exact H | (rw [hy228]; exact H) | exact H
   have Ny228 := zA hy228
   clear hy228
   have H' := zA H
   clear H
   have p223 : 0 ≤ (x10_1 : Int) := za
   have q223 : x10_1 < (l0.length : Int) := za
   obtain ⟨ad223, e223, hx223_0, hx223_1, hx223_2, hx223_3, hx223_4⟩ := at_T55 HR0.out x10_1 p223 q223
   cases e223
   replace hx223_0 := zx HB hx223_0
   replace hx223_1 := zx HB hx223_1
   replace hx223_2 := zx HB hx223_2
   replace hx223_3 := zx HB hx223_3
   replace hx223_4 := zx HB hx223_4
   replace p223 := eq_true p223
   replace q223 := eq_true q223
   go_wp2_with (first | ((with_reducible refine gate_dst (N := 7) rfl ?_); refine zbx 7 #[.string (⟨#[]⟩ : ByteArray), .int .i64 0, .int .i64 0, .int .i64 0, .int .i64 0] 55 ?_; intro gb224 hg w9 hbox hb; have BK224 := zA hbox; have GW224 := zgs hg (zs0 HB); have GE224 := zgs hg (zs0 HB); replace HO_5 := zA (Kd.R_below (zr HO_5) hb); replace HB := zE (zs0 HB) hb; clear hb hbox hg; obtain ⟨hcz10_0, hcz10_1, hcz10_2, hcz10_3, hcz10_4⟩ := zd5 BK224; obtain ⟨hfz10_0, hfz10_1, hfz10_2, hfz10_3, hfz10_4⟩ := zn5 BK224) | ((with_reducible refine gate_callee (f := 32) rfl ?_); refine zgl Try.func32 #[.agg #[.string ((rd_T55 l0 x10_1).f0), .int .i64 ((rd_T55 l0 x10_1).f1), .int .i64 ((rd_T55 l0 x10_1).f2), .int .i64 ((rd_T55 l0 x10_1).f3), .int .i64 ((rd_T55 l0 x10_1).f4)], .slice A1 l1.length c1] ?_; (with_reducible refine (impl_HandPartOf.calls k1 ((rd_T55 l0 x10_1).f0) ((rd_T55 l0 x10_1).f1) ((rd_T55 l0 x10_1).f2) ((rd_T55 l0 x10_1).f3) ((rd_T55 l0 x10_1).f4) _ _ l1 t225 _ ?side1 ?side2 A6.out).mono ?_); (case side1 => exact Kd.C_below HR1.out (zs1 HB GE224)); (case side2 => exact HC1.out); rintro e w11 ⟨v226, rfl, ho0, hb⟩; refine ⟨_, rfl, ?_⟩; have HO227 := zA (Kd.R_lower ho0 (below_size (zs1 HB GE224))); replace HO_5 := zA (Kd.R_below (zRf HO_5 BK224 (fun _ h_ => h_.1)) hb); replace BK224 := zA (blk_below (g := gb224) (o := .cells #[.string ((rd_T55 l0 x10_1).f0), .int .i64 ((rd_T55 l0 x10_1).f1), .int .i64 ((rd_T55 l0 x10_1).f2), .int .i64 ((rd_T55 l0 x10_1).f3), .int .i64 ((rd_T55 l0 x10_1).f4)] 55 (0, 0)) (zpb BK224) hb); replace HB := zE (zs1 HB GE224) hb; (try clear hb); (try clear hb2); (try clear hk); (try clear hi); (try clear ho0); obtain ⟨Ao12, co12, eo12⟩ := Kd.R_slice HO227.out; subst eo12; obtain ⟨hcz13_0, hcz13_1, hcz13_2, hcz13_3, hcz13_4⟩ := zd5 BK224; obtain ⟨hfz13_0, hfz13_1, hfz13_2, hfz13_3, hfz13_4⟩ := zn5 BK224) | ((with_reducible refine gate_builtin (b := .append) (xs := #[.tmp 19, .tmp 22]) rfl ?_); at_builtin; refine Kd.R_append Kd.string (w0 := w) w.heap.size rfl (.tmp 19) (.tmp 22) 61 9 (.string ⟨#[]⟩) 16 rfl Try.underlying61 info9 rfl (by decide) (by omega) u5 x5_1 ((rd_T55 l0 x10_1).f0) [.string ((rd_T55 l0 x10_1).f0)] (fun _ => True) (fun _ => False) rfl rfl ?aP (fun _ hk => hk.elim) ?aF ?aO ?aB ?aS ?aL ?_; (case aP => exact rfl); (case aB => exact (zs1 HB GE224)); (case aF => exact (fun _ _ => trivial)); (case aO => exact (zr HO_5)); (case aS => exact (below_size (zs1 HB GE224))); (case aL => have := LMc8.out; omega); intro v229 w14 ho hb hg hat; rw [← Ny228.out] at ho; have HO230 := zA (ho); replace BK224 := zA (blk_grown (g := gb224) (o := .cells #[.string ((rd_T55 l0 x10_1).f0), .int .i64 ((rd_T55 l0 x10_1).f1), .int .i64 ((rd_T55 l0 x10_1).f2), .int .i64 ((rd_T55 l0 x10_1).f3), .int .i64 ((rd_T55 l0 x10_1).f4)] 55 (0, 0)) (zh BK224) hg (Kd.R_ne HO_5.out BK224.out (by decide))); replace HO227 := zA (Kd.R_over' (zr HO227) (Kd.R_typed (zr HO_5)) (by decide) hg); replace HB := zA (hb); clear HO_5; clear ho hb hg hat))
   go_roundg k1
   case measure => have := HK1.out; omega
   case rel => exact ⟨(y228), (wrap64 (x10_1 + 1)), zi, H', ⟨by have := HK1.out; omega⟩, ⟨zr HO230⟩, ⟨zs1 HB GE224⟩⟩
def laws_eqStringS.l0 : Nat → List ByteArray → List ByteArray → Int → Option (Bool)
 | 0, _, _, _ => none
 | k + 1, x0, x1, x5 => if x5 < (x0.length : Int) then (if 0 ≤ x5 then (if x5 < (x1.length : Int) then (if (rdOf ByteArray.empty x0 x5).toList = (rdOf ByteArray.empty x1 x5).toList then (laws_eqStringS.l0 k x0 x1 (wrap64 (x5 + 1))) else (some false)) else (none)) else (none)) else (some true)
def laws_eqStringS.f (k : Nat) (l0 : List ByteArray) (l1 : List ByteArray) : Option (Bool) := if (l0.length : Int) = (l1.length : Int) then (laws_eqStringS.l0 k l0 l1 0) else (some false)
set_option maxHeartbeats 8000000 in
set_option maxRecDepth 100000 in
theorem laws_eqStringS.calls (k : Nat) (A0 : Option Addr) (c0 : Nat) (l0 : List ByteArray) (A1 : Option Addr) (c1 : Nat) (l1 : List ByteArray) (r : Bool) (w : World) (hr0 : Kd.C Kd.string w A0 l0.length l0) (hc0 : l0.length ≤ c0) (hr1 : Kd.C Kd.string w A1 l1.length l1) (hc1 : l1.length ≤ c1) (h : laws_eqStringS.f k l0 l1 = some r) :
 Calls Try.prog 39 #[.slice A0 l0.length c0, .slice A1 l1.length c1] w fun e w' => e = .returned (.bool r) ∧ Drawn0 w w' := by
 have HR0 := zA hr0
 have HC0 := zA hc0
 clear hr0 hc0
 have HR1 := zA hr1
 have HC1 := zA hc1
 clear hr1 hc1
 have H : (if (l0.length : Int) = (l1.length : Int) then (laws_eqStringS.l0 k l0 l1 0) else (some false)) = some r := h
 clear h
 by_cases c3 : (l0.length : Int) = (l1.length : Int)
 rotate_left
 ·rw [if_neg c3] at H
  have c3b0 : ((l0.length : Int) == (l1.length : Int)) = false := beq_eq_false_iff_ne.mpr c3
  have c3b1 : ((l0.length : Int) != (l1.length : Int)) = true := bne_iff_ne.mpr c3
  have c3b2 : (l0.length == l1.length) = false := by first | simpa using c3 | (simp at c3 ⊢; omega)
  obtain rfl := Option.some.inj H
  go_enter Try.func39, Try.ntmps39
  go_wp2
  repeat (go_quiet (fail); try go_wp2)
  go_ret
  exact ⟨by first | rfl | (simp; done) | (simp [*]; done), by repeat (first | exact Drawn0.refl _ | apply Drawn0.step)⟩
 rw [if_pos c3] at H
 have c3b0 : ((l0.length : Int) == (l1.length : Int)) = true := beq_iff_eq.mpr c3
 have c3b1 : ((l0.length : Int) != (l1.length : Int)) = false := bne_eq_false_iff_eq.mpr c3
 have c3b2 : (l0.length == l1.length) = true := by first | simpa using c3 | (simp at c3 ⊢; omega)
 clear c3
 have H' := zA H
 clear H
 go_enter Try.func39, Try.ntmps39
 go_wp2
 repeat (go_quiet (fail); try go_wp2)
 go_loopg [5] k (fun kq v5 w' => ∃ (x5_1 : Int), v5 = .int .i64 x5_1 ∧ Aside0 (laws_eqStringS.l0 kq l0 l1 x5_1 = some r) ∧ Aside0 (kq ≤ k) ∧ Drawn0 w w')
 case atStart => exact ⟨(0), zi, H', ⟨Nat.le_refl _⟩, by repeat (first | exact Drawn0.refl _ | apply Drawn0.step)⟩
 case round =>
  clear H'
  try clear c1
  try clear p2
  try clear c3
  try clear c3b0
  try clear c3b1
  try clear c3b2
  obtain ⟨x5_1, rfl, HA, HK1, ⟨m1, rfl⟩⟩ := hrel
  cases gk with
  | zero => exact absurd HA.out (by simp [laws_eqStringS.l0])
  | succ k1 =>
   have H := HA.out
   clear HA
   simp only [laws_eqStringS.l0] at H
   by_cases c4 : x5_1 < (l0.length : Int)
   rotate_left
   ·rw [if_neg c4] at H
    have c4b0 : decide (x5_1 < (l0.length : Int)) = false := decide_eq_false c4
    clear c4
    obtain rfl := Option.some.inj H
    go_wp2
    repeat (go_quiet (fail); try go_wp2)
    go_ret
    exact ⟨by first | rfl | (simp; done) | (simp [*]; done), by repeat (first | exact Drawn0.refl _ | apply Drawn0.step)⟩
   rw [if_pos c4] at H
   have c4b0 : decide (x5_1 < (l0.length : Int)) = true := decide_eq_true c4
   clear c4
   by_cases c5 : 0 ≤ x5_1
   rotate_left
   ·rw [if_neg c5] at H
    exact absurd H (by simp)
   rw [if_pos c5] at H
   have c5b0 : decide (0 ≤ x5_1) = true := decide_eq_true c5
   clear c5
   by_cases c6 : x5_1 < (l1.length : Int)
   rotate_left
   ·rw [if_neg c6] at H
    exact absurd H (by simp)
   rw [if_pos c6] at H
   have c6b0 : decide (x5_1 < (l1.length : Int)) = true := decide_eq_true c6
   clear c6
   by_cases c7 : (rdOf ByteArray.empty l0 x5_1).toList = (rdOf ByteArray.empty l1 x5_1).toList
   rotate_left
   ·rw [if_neg c7] at H
    have c7b0 : ((rdOf ByteArray.empty l0 x5_1).toList == (rdOf ByteArray.empty l1 x5_1).toList) = false := beq_eq_false_iff_ne.mpr c7
    have c7b1 : ((rdOf ByteArray.empty l0 x5_1).toList != (rdOf ByteArray.empty l1 x5_1).toList) = true := bne_iff_ne.mpr c7
    obtain rfl := Option.some.inj H
    have p231 : 0 ≤ (x5_1 : Int) := za
    have q231 : x5_1 < (l0.length : Int) := za
    obtain ⟨ad231, e231, hx231_0⟩ := Kd.at_string HR0.out x5_1 p231 q231
    cases e231
    replace p231 := eq_true p231
    replace q231 := eq_true q231
    have p232 : 0 ≤ (x5_1 : Int) := za
    have q232 : x5_1 < (l1.length : Int) := za
    obtain ⟨ad232, e232, hx232_0⟩ := Kd.at_string HR1.out x5_1 p232 q232
    cases e232
    replace p232 := eq_true p232
    replace q232 := eq_true q232
    go_wp2
    repeat (go_quiet (fail); try go_wp2)
    go_ret
    exact ⟨by first | rfl | (simp; done) | (simp [*]; done), by repeat (first | exact Drawn0.refl _ | apply Drawn0.step)⟩
   rw [if_pos c7] at H
   have c7b0 : ((rdOf ByteArray.empty l0 x5_1).toList == (rdOf ByteArray.empty l1 x5_1).toList) = true := beq_iff_eq.mpr c7
   have c7b1 : ((rdOf ByteArray.empty l0 x5_1).toList != (rdOf ByteArray.empty l1 x5_1).toList) = false := bne_eq_false_iff_eq.mpr c7
   clear c7
   have H' := zA H
   clear H
   have p231 : 0 ≤ (x5_1 : Int) := za
   have q231 : x5_1 < (l0.length : Int) := za
   obtain ⟨ad231, e231, hx231_0⟩ := Kd.at_string HR0.out x5_1 p231 q231
   cases e231
   replace p231 := eq_true p231
   replace q231 := eq_true q231
   have p232 : 0 ≤ (x5_1 : Int) := za
   have q232 : x5_1 < (l1.length : Int) := za
   obtain ⟨ad232, e232, hx232_0⟩ := Kd.at_string HR1.out x5_1 p232 q232
   cases e232
   replace p232 := eq_true p232
   replace q232 := eq_true q232
   go_wp2
   repeat (go_quiet (fail); try go_wp2)
   go_roundg k1
   case measure => have := HK1.out; omega
   case rel => exact ⟨(wrap64 (x5_1 + 1)), zi, H', ⟨by have := HK1.out; omega⟩, by repeat (first | exact Drawn0.refl _ | apply Drawn0.step)⟩
end Go.Proofs.Ytbmplfpnhjhoiaa.QFnExactHandWho
