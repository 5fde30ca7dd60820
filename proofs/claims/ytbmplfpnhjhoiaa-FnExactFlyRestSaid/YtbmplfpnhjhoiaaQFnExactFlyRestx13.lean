/- The walk of what the law FnExactFlyRest reaches: laid by a program of this session (ownprint.py). -/
import Derived.Test.YtbmplfpnhjhoiaaQFnExactFlyRestx0
namespace Go.Proofs.Ytbmplfpnhjhoiaa.QFnExactFlyRest
open Go.RowKit Go.Proofs.YtbmplfpnhjhoiaaW.PrintWords Go.Proofs.YtbmplfpnhjhoiaaW.PrintLast Go.Proofs.YtbmplfpnhjhoiaaW.PrintMore Go.Proofs.Ytbmplfpnhjhoiaa.Z
attribute [local go_sem] max2_int min2_int max_two min_two max_three min_three max_four min_four zdn   -- for this text's walks alone
set_option linter.unusedVariables false
set_option linter.unusedSimpArgs false
def impl_FlyPath_bound.f (a0_0 : Int) (a0_1 : Int) (l0_2 : List (S132)) (a0_3 : Int) (a0_4 : Int) (a1 : Int) : Option (Int × Int) := if a1 = (l0_2.length : Int) then (some (a0_3, a0_4)) else (if 0 ≤ a1 then (if a1 < (l0_2.length : Int) then (some ((rd_T132 l0_2 a1).f4, (rd_T132 l0_2 a1).f5)) else (none)) else (none))
set_option maxHeartbeats 8000000 in
set_option maxRecDepth 100000 in
theorem impl_FlyPath_bound.calls (a0_0 : Int) (a0_1 : Int) (A0_2 : Option Addr) (c0_2 : Nat) (l0_2 : List (S132)) (a0_3 : Int) (a0_4 : Int) (a1 : Int) (r1 : Int) (r2 : Int) (w : World) (hr0_2 : Kd.C k132 w A0_2 l0_2.length l0_2) (hc0_2 : l0_2.length ≤ c0_2) (h : impl_FlyPath_bound.f a0_0 a0_1 l0_2 a0_3 a0_4 a1 = some (r1, r2)) :
 Calls Try.prog 161 #[.agg #[.int .i64 a0_0, .int .i64 a0_1, .slice A0_2 l0_2.length c0_2, .int .i64 a0_3, .int .i64 a0_4], .int .i64 a1] w fun e w' => e = .returned (.tuple #[.int .i64 r1, .int .i64 r2]) ∧ Below w.heap.size w w' := by
 have hu68 := Try.underlying68
 have HR0_2 := zA hr0_2
 have HC0_2 := zA hc0_2
 clear hr0_2 hc0_2
 have HB := zA (Below.refl w.heap.size w)
 have H : (if a1 = (l0_2.length : Int) then (some (a0_3, a0_4)) else (if 0 ≤ a1 then (if a1 < (l0_2.length : Int) then (some ((rd_T132 l0_2 a1).f4, (rd_T132 l0_2 a1).f5)) else (none)) else (none))) = some (r1, r2) := h
 clear h
 by_cases c3 : a1 = (l0_2.length : Int)
 ·rw [if_pos c3] at H
  have c3b0 : (a1 == (l0_2.length : Int)) = true := beq_iff_eq.mpr c3
  have c3b1 : (a1 != (l0_2.length : Int)) = false := bne_eq_false_iff_eq.mpr c3
  clear c3
  simp only [Option.some.injEq, Prod.mk.injEq] at H
  obtain ⟨rfl, rfl⟩ := H
  go_enter Try.func161, Try.ntmps161
  go_wp2_with (first | ((with_reducible refine gate_dst (N := 2) rfl ?_); refine zbx 2 #[.int .i64 a0_0, .int .i64 a0_1, .slice A0_2 l0_2.length c0_2, .int .i64 a0_3, .int .i64 a0_4] 68 ?_; intro gb337 hg w4 hbox hb; have BK337 := zA hbox; have GW337 := zgs hg (zs0 HB); have GE337 := zgs hg (zs0 HB); replace HB := zE (zs0 HB) hb; clear hb hbox hg; obtain ⟨hcz5_0, hcz5_1, hcz5_2, hcz5_3, hcz5_4⟩ := zd5 BK337; obtain ⟨hfz5_0, hfz5_1, hfz5_2, hfz5_3, hfz5_4⟩ := zn5 BK337))
  repeat (go_quiet (first | ((with_reducible refine gate_dst (N := 2) rfl ?_); refine zbx 2 #[.int .i64 a0_0, .int .i64 a0_1, .slice A0_2 l0_2.length c0_2, .int .i64 a0_3, .int .i64 a0_4] 68 ?_; intro gb337 hg w4 hbox hb; have BK337 := zA hbox; have GW337 := zgs hg (zs0 HB); have GE337 := zgs hg (zs0 HB); replace HB := zE (zs0 HB) hb; clear hb hbox hg; obtain ⟨hcz5_0, hcz5_1, hcz5_2, hcz5_3, hcz5_4⟩ := zd5 BK337; obtain ⟨hfz5_0, hfz5_1, hfz5_2, hfz5_3, hfz5_4⟩ := zn5 BK337)); try go_wp2_with (first | ((with_reducible refine gate_dst (N := 2) rfl ?_); refine zbx 2 #[.int .i64 a0_0, .int .i64 a0_1, .slice A0_2 l0_2.length c0_2, .int .i64 a0_3, .int .i64 a0_4] 68 ?_; intro gb337 hg w4 hbox hb; have BK337 := zA hbox; have GW337 := zgs hg (zs0 HB); have GE337 := zgs hg (zs0 HB); replace HB := zE (zs0 HB) hb; clear hb hbox hg; obtain ⟨hcz5_0, hcz5_1, hcz5_2, hcz5_3, hcz5_4⟩ := zd5 BK337; obtain ⟨hfz5_0, hfz5_1, hfz5_2, hfz5_3, hfz5_4⟩ := zn5 BK337)))
  go_ret2
  exact ⟨ze, zs1 HB GE337⟩
 rw [if_neg c3] at H
 have c3b0 : (a1 == (l0_2.length : Int)) = false := beq_eq_false_iff_ne.mpr c3
 have c3b1 : (a1 != (l0_2.length : Int)) = true := bne_iff_ne.mpr c3
 by_cases c6 : 0 ≤ a1
 rotate_left
 ·rw [if_neg c6] at H
  exact absurd H (by simp)
 rw [if_pos c6] at H
 have c6b0 : decide (0 ≤ a1) = true := decide_eq_true c6
 clear c6
 by_cases c7 : a1 < (l0_2.length : Int)
 rotate_left
 ·rw [if_neg c7] at H
  exact absurd H (by simp)
 rw [if_pos c7] at H
 have c7b0 : decide (a1 < (l0_2.length : Int)) = true := decide_eq_true c7
 clear c7
 simp only [Option.some.injEq, Prod.mk.injEq] at H
 obtain ⟨rfl, rfl⟩ := H
 go_enter Try.func161, Try.ntmps161
 go_wp2_with (first | ((with_reducible refine gate_dst (N := 2) rfl ?_); refine zbx 2 #[.int .i64 a0_0, .int .i64 a0_1, .slice A0_2 l0_2.length c0_2, .int .i64 a0_3, .int .i64 a0_4] 68 ?_; intro gb337 hg w8 hbox hb; have BK337 := zA hbox; have GW337 := zgs hg (zs0 HB); have GE337 := zgs hg (zs0 HB); replace HB := zE (zs0 HB) hb; clear hb hbox hg; obtain ⟨hcz9_0, hcz9_1, hcz9_2, hcz9_3, hcz9_4⟩ := zd5 BK337; obtain ⟨hfz9_0, hfz9_1, hfz9_2, hfz9_3, hfz9_4⟩ := zn5 BK337; have p338 : 0 ≤ (a1 : Int) := za; have q338 : a1 < (l0_2.length : Int) := za; obtain ⟨ad338, e338, hx338_0, hx338_1, hx338_2, hx338_3, hx338_4, hx338_5, hx338_6⟩ := at_T132 HR0_2.out a1 p338 q338; cases e338; replace hx338_0 := zx HB hx338_0; replace hx338_1 := zx HB hx338_1; replace hx338_2 := zx HB hx338_2; replace hx338_3 := zx HB hx338_3; replace hx338_4 := zx HB hx338_4; replace hx338_5 := zx HB hx338_5; replace hx338_6 := zx HB hx338_6; replace p338 := eq_true p338; replace q338 := eq_true q338; have p339 : 0 ≤ (a1 : Int) := za; have q339 : a1 < (l0_2.length : Int) := za; obtain ⟨ad339, e339, hx339_0, hx339_1, hx339_2, hx339_3, hx339_4, hx339_5, hx339_6⟩ := at_T132 HR0_2.out a1 p339 q339; obtain rfl : ad338 = ad339 := (by injection e339); replace hx339_0 := zx HB hx339_0; replace hx339_1 := zx HB hx339_1; replace hx339_2 := zx HB hx339_2; replace hx339_3 := zx HB hx339_3; replace hx339_4 := zx HB hx339_4; replace hx339_5 := zx HB hx339_5; replace hx339_6 := zx HB hx339_6; replace p339 := eq_true p339; replace q339 := eq_true q339))
 repeat (go_quiet (first | ((with_reducible refine gate_dst (N := 2) rfl ?_); refine zbx 2 #[.int .i64 a0_0, .int .i64 a0_1, .slice A0_2 l0_2.length c0_2, .int .i64 a0_3, .int .i64 a0_4] 68 ?_; intro gb337 hg w8 hbox hb; have BK337 := zA hbox; have GW337 := zgs hg (zs0 HB); have GE337 := zgs hg (zs0 HB); replace HB := zE (zs0 HB) hb; clear hb hbox hg; obtain ⟨hcz9_0, hcz9_1, hcz9_2, hcz9_3, hcz9_4⟩ := zd5 BK337; obtain ⟨hfz9_0, hfz9_1, hfz9_2, hfz9_3, hfz9_4⟩ := zn5 BK337; have p338 : 0 ≤ (a1 : Int) := za; have q338 : a1 < (l0_2.length : Int) := za; obtain ⟨ad338, e338, hx338_0, hx338_1, hx338_2, hx338_3, hx338_4, hx338_5, hx338_6⟩ := at_T132 HR0_2.out a1 p338 q338; cases e338; replace hx338_0 := zx HB hx338_0; replace hx338_1 := zx HB hx338_1; replace hx338_2 := zx HB hx338_2; replace hx338_3 := zx HB hx338_3; replace hx338_4 := zx HB hx338_4; replace hx338_5 := zx HB hx338_5; replace hx338_6 := zx HB hx338_6; replace p338 := eq_true p338; replace q338 := eq_true q338; have p339 : 0 ≤ (a1 : Int) := za; have q339 : a1 < (l0_2.length : Int) := za; obtain ⟨ad339, e339, hx339_0, hx339_1, hx339_2, hx339_3, hx339_4, hx339_5, hx339_6⟩ := at_T132 HR0_2.out a1 p339 q339; obtain rfl : ad338 = ad339 := (by injection e339); replace hx339_0 := zx HB hx339_0; replace hx339_1 := zx HB hx339_1; replace hx339_2 := zx HB hx339_2; replace hx339_3 := zx HB hx339_3; replace hx339_4 := zx HB hx339_4; replace hx339_5 := zx HB hx339_5; replace hx339_6 := zx HB hx339_6; replace p339 := eq_true p339; replace q339 := eq_true q339)); try go_wp2_with (first | ((with_reducible refine gate_dst (N := 2) rfl ?_); refine zbx 2 #[.int .i64 a0_0, .int .i64 a0_1, .slice A0_2 l0_2.length c0_2, .int .i64 a0_3, .int .i64 a0_4] 68 ?_; intro gb337 hg w8 hbox hb; have BK337 := zA hbox; have GW337 := zgs hg (zs0 HB); have GE337 := zgs hg (zs0 HB); replace HB := zE (zs0 HB) hb; clear hb hbox hg; obtain ⟨hcz9_0, hcz9_1, hcz9_2, hcz9_3, hcz9_4⟩ := zd5 BK337; obtain ⟨hfz9_0, hfz9_1, hfz9_2, hfz9_3, hfz9_4⟩ := zn5 BK337; have p338 : 0 ≤ (a1 : Int) := za; have q338 : a1 < (l0_2.length : Int) := za; obtain ⟨ad338, e338, hx338_0, hx338_1, hx338_2, hx338_3, hx338_4, hx338_5, hx338_6⟩ := at_T132 HR0_2.out a1 p338 q338; cases e338; replace hx338_0 := zx HB hx338_0; replace hx338_1 := zx HB hx338_1; replace hx338_2 := zx HB hx338_2; replace hx338_3 := zx HB hx338_3; replace hx338_4 := zx HB hx338_4; replace hx338_5 := zx HB hx338_5; replace hx338_6 := zx HB hx338_6; replace p338 := eq_true p338; replace q338 := eq_true q338; have p339 : 0 ≤ (a1 : Int) := za; have q339 : a1 < (l0_2.length : Int) := za; obtain ⟨ad339, e339, hx339_0, hx339_1, hx339_2, hx339_3, hx339_4, hx339_5, hx339_6⟩ := at_T132 HR0_2.out a1 p339 q339; obtain rfl : ad338 = ad339 := (by injection e339); replace hx339_0 := zx HB hx339_0; replace hx339_1 := zx HB hx339_1; replace hx339_2 := zx HB hx339_2; replace hx339_3 := zx HB hx339_3; replace hx339_4 := zx HB hx339_4; replace hx339_5 := zx HB hx339_5; replace hx339_6 := zx HB hx339_6; replace p339 := eq_true p339; replace q339 := eq_true q339)))
 go_ret2
 exact ⟨ze, zs1 HB GE337⟩
end Go.Proofs.Ytbmplfpnhjhoiaa.QFnExactFlyRest
