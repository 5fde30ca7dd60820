/- The walk of what the law FnExactFlyGo reaches: laid by a program of this session (ownprint.py). -/
import Derived.Test.YtidenmcoilmbcaaQFnExactFlyGox0
namespace Go.Proofs.Ytidenmcoilmbcaa.QFnExactFlyGo
open Go.RowKit Go.Proofs.YtidenmcoilmbcaaW.PrintWords Go.Proofs.YtidenmcoilmbcaaW.PrintLast Go.Proofs.YtidenmcoilmbcaaW.PrintMore Go.Proofs.Ytidenmcoilmbcaa.Z
attribute [local go_sem] max2_int min2_int max_two min_two max_three min_three max_four min_four zdn   -- for this text's walks alone
set_option linter.unusedVariables false
set_option linter.unusedSimpArgs false
def impl_FlyPath_bound.f (a0_0 : Int) (a0_1 : Int) (l0_2 : List (S88)) (a0_3 : Int) (a0_4 : Int) (a1 : Int) : Option (Int × Int) := if a1 = (l0_2.length : Int) then (some (a0_3, a0_4)) else (if 0 ≤ a1 then (if a1 < (l0_2.length : Int) then (some ((rd_T88 l0_2 a1).f4, (rd_T88 l0_2 a1).f5)) else (none)) else (none))
set_option maxHeartbeats 8000000 in
set_option maxRecDepth 100000 in
theorem impl_FlyPath_bound.calls (a0_0 : Int) (a0_1 : Int) (A0_2 : Option Addr) (c0_2 : Nat) (l0_2 : List (S88)) (a0_3 : Int) (a0_4 : Int) (a1 : Int) (r1 : Int) (r2 : Int) (w : World) (hr0_2 : Kd.C k88 w A0_2 l0_2.length l0_2) (hc0_2 : l0_2.length ≤ c0_2) (h : impl_FlyPath_bound.f a0_0 a0_1 l0_2 a0_3 a0_4 a1 = some (r1, r2)) :
 Calls Try.prog 67 #[.agg #[.int .i64 a0_0, .int .i64 a0_1, .slice A0_2 l0_2.length c0_2, .int .i64 a0_3, .int .i64 a0_4], .int .i64 a1] w fun e w' => e = .returned (.tuple #[.int .i64 r1, .int .i64 r2]) ∧ Below w.heap.size w w' := by
 have hu34 := Try.underlying34
 have HR0_2 := zA hr0_2
 have HC0_2 := zA hc0_2
 clear hr0_2 hc0_2
 have HB := zA (Below.refl w.heap.size w)
 have H : (if a1 = (l0_2.length : Int) then (some (a0_3, a0_4)) else (if 0 ≤ a1 then (if a1 < (l0_2.length : Int) then (some ((rd_T88 l0_2 a1).f4, (rd_T88 l0_2 a1).f5)) else (none)) else (none))) = some (r1, r2) := h
 clear h
 by_cases c3 : a1 = (l0_2.length : Int)
 ·rw [if_pos c3] at H
  have c3b0 : (a1 == (l0_2.length : Int)) = true := beq_iff_eq.mpr c3
  have c3b1 : (a1 != (l0_2.length : Int)) = false := bne_eq_false_iff_eq.mpr c3
  clear c3
  simp only [Option.some.injEq, Prod.mk.injEq] at H
  obtain ⟨rfl, rfl⟩ := H
  go_enter Try.func67, Try.ntmps67
  go_wp2_with (first | ((with_reducible refine gate_dst (N := 2) rfl ?_); refine zbx 2 #[.int .i64 a0_0, .int .i64 a0_1, .slice A0_2 l0_2.length c0_2, .int .i64 a0_3, .int .i64 a0_4] 34 ?_; intro gb300 hg w4 hbox hb; have BK300 := zA hbox; have GW300 := zgs hg (zs0 HB); have GE300 := zgs hg (zs0 HB); replace HB := zE (zs0 HB) hb; clear hb hbox hg; obtain ⟨hcz5_0, hcz5_1, hcz5_2, hcz5_3, hcz5_4⟩ := zd5 BK300; obtain ⟨hfz5_0, hfz5_1, hfz5_2, hfz5_3, hfz5_4⟩ := zn5 BK300))
  repeat (go_quiet (first | ((with_reducible refine gate_dst (N := 2) rfl ?_); refine zbx 2 #[.int .i64 a0_0, .int .i64 a0_1, .slice A0_2 l0_2.length c0_2, .int .i64 a0_3, .int .i64 a0_4] 34 ?_; intro gb300 hg w4 hbox hb; have BK300 := zA hbox; have GW300 := zgs hg (zs0 HB); have GE300 := zgs hg (zs0 HB); replace HB := zE (zs0 HB) hb; clear hb hbox hg; obtain ⟨hcz5_0, hcz5_1, hcz5_2, hcz5_3, hcz5_4⟩ := zd5 BK300; obtain ⟨hfz5_0, hfz5_1, hfz5_2, hfz5_3, hfz5_4⟩ := zn5 BK300)); try go_wp2_with (first | ((with_reducible refine gate_dst (N := 2) rfl ?_); refine zbx 2 #[.int .i64 a0_0, .int .i64 a0_1, .slice A0_2 l0_2.length c0_2, .int .i64 a0_3, .int .i64 a0_4] 34 ?_; intro gb300 hg w4 hbox hb; have BK300 := zA hbox; have GW300 := zgs hg (zs0 HB); have GE300 := zgs hg (zs0 HB); replace HB := zE (zs0 HB) hb; clear hb hbox hg; obtain ⟨hcz5_0, hcz5_1, hcz5_2, hcz5_3, hcz5_4⟩ := zd5 BK300; obtain ⟨hfz5_0, hfz5_1, hfz5_2, hfz5_3, hfz5_4⟩ := zn5 BK300)))
  go_ret2
  exact ⟨ze, zs1 HB GE300⟩
 rw [if_neg c3] at H
 have c3b0 : (a1 == (l0_2.length : Int)) = false := beq_eq_false_iff_ne.mpr c3
 have c3b1 : (a1 != (l0_2.length : Int)) = true := bne_iff_ne.mpr c3
 by_cases c6 : 0 ≤ a1
 rotate_left
 ·rw [if_neg c6] at H
  exact absurd H (by simp)
 rw [if_pos c6] at H
 have c6b0 : decide (0 ≤ a1) = true := decide_eq_true c6
 clear c6
 by_cases c7 : a1 < (l0_2.length : Int)
 rotate_left
 ·rw [if_neg c7] at H
  exact absurd H (by simp)
 rw [if_pos c7] at H
 have c7b0 : decide (a1 < (l0_2.length : Int)) = true := decide_eq_true c7
 clear c7
 simp only [Option.some.injEq, Prod.mk.injEq] at H
 obtain ⟨rfl, rfl⟩ := H
 go_enter Try.func67, Try.ntmps67
 go_wp2_with (first | ((with_reducible refine gate_dst (N := 2) rfl ?_); refine zbx 2 #[.int .i64 a0_0, .int .i64 a0_1, .slice A0_2 l0_2.length c0_2, .int .i64 a0_3, .int .i64 a0_4] 34 ?_; intro gb300 hg w8 hbox hb; have BK300 := zA hbox; have GW300 := zgs hg (zs0 HB); have GE300 := zgs hg (zs0 HB); replace HB := zE (zs0 HB) hb; clear hb hbox hg; obtain ⟨hcz9_0, hcz9_1, hcz9_2, hcz9_3, hcz9_4⟩ := zd5 BK300; obtain ⟨hfz9_0, hfz9_1, hfz9_2, hfz9_3, hfz9_4⟩ := zn5 BK300; have p301 : 0 ≤ (a1 : Int) := za; have q301 : a1 < (l0_2.length : Int) := za; obtain ⟨ad301, e301, hx301_0, hx301_1, hx301_2, hx301_3, hx301_4, hx301_5, hx301_6⟩ := at_T88 HR0_2.out a1 p301 q301; cases e301; replace hx301_0 := zx HB hx301_0; replace hx301_1 := zx HB hx301_1; replace hx301_2 := zx HB hx301_2; replace hx301_3 := zx HB hx301_3; replace hx301_4 := zx HB hx301_4; replace hx301_5 := zx HB hx301_5; replace hx301_6 := zx HB hx301_6; replace p301 := eq_true p301; replace q301 := eq_true q301; have p302 : 0 ≤ (a1 : Int) := za; have q302 : a1 < (l0_2.length : Int) := za; obtain ⟨ad302, e302, hx302_0, hx302_1, hx302_2, hx302_3, hx302_4, hx302_5, hx302_6⟩ := at_T88 HR0_2.out a1 p302 q302; obtain rfl : ad301 = ad302 := (by injection e302); replace hx302_0 := zx HB hx302_0; replace hx302_1 := zx HB hx302_1; replace hx302_2 := zx HB hx302_2; replace hx302_3 := zx HB hx302_3; replace hx302_4 := zx HB hx302_4; replace hx302_5 := zx HB hx302_5; replace hx302_6 := zx HB hx302_6; replace p302 := eq_true p302; replace q302 := eq_true q302))
 repeat (go_quiet (first | ((with_reducible refine gate_dst (N := 2) rfl ?_); refine zbx 2 #[.int .i64 a0_0, .int .i64 a0_1, .slice A0_2 l0_2.length c0_2, .int .i64 a0_3, .int .i64 a0_4] 34 ?_; intro gb300 hg w8 hbox hb; have BK300 := zA hbox; have GW300 := zgs hg (zs0 HB); have GE300 := zgs hg (zs0 HB); replace HB := zE (zs0 HB) hb; clear hb hbox hg; obtain ⟨hcz9_0, hcz9_1, hcz9_2, hcz9_3, hcz9_4⟩ := zd5 BK300; obtain ⟨hfz9_0, hfz9_1, hfz9_2, hfz9_3, hfz9_4⟩ := zn5 BK300; have p301 : 0 ≤ (a1 : Int) := za; have q301 : a1 < (l0_2.length : Int) := za; obtain ⟨ad301, e301, hx301_0, hx301_1, hx301_2, hx301_3, hx301_4, hx301_5, hx301_6⟩ := at_T88 HR0_2.out a1 p301 q301; cases e301; replace hx301_0 := zx HB hx301_0; replace hx301_1 := zx HB hx301_1; replace hx301_2 := zx HB hx301_2; replace hx301_3 := zx HB hx301_3; replace hx301_4 := zx HB hx301_4; replace hx301_5 := zx HB hx301_5; replace hx301_6 := zx HB hx301_6; replace p301 := eq_true p301; replace q301 := eq_true q301; have p302 : 0 ≤ (a1 : Int) := za; have q302 : a1 < (l0_2.length : Int) := za; obtain ⟨ad302, e302, hx302_0, hx302_1, hx302_2, hx302_3, hx302_4, hx302_5, hx302_6⟩ := at_T88 HR0_2.out a1 p302 q302; obtain rfl : ad301 = ad302 := (by injection e302); replace hx302_0 := zx HB hx302_0; replace hx302_1 := zx HB hx302_1; replace hx302_2 := zx HB hx302_2; replace hx302_3 := zx HB hx302_3; replace hx302_4 := zx HB hx302_4; replace hx302_5 := zx HB hx302_5; replace hx302_6 := zx HB hx302_6; replace p302 := eq_true p302; replace q302 := eq_true q302)); try go_wp2_with (first | ((with_reducible refine gate_dst (N := 2) rfl ?_); refine zbx 2 #[.int .i64 a0_0, .int .i64 a0_1, .slice A0_2 l0_2.length c0_2, .int .i64 a0_3, .int .i64 a0_4] 34 ?_; intro gb300 hg w8 hbox hb; have BK300 := zA hbox; have GW300 := zgs hg (zs0 HB); have GE300 := zgs hg (zs0 HB); replace HB := zE (zs0 HB) hb; clear hb hbox hg; obtain ⟨hcz9_0, hcz9_1, hcz9_2, hcz9_3, hcz9_4⟩ := zd5 BK300; obtain ⟨hfz9_0, hfz9_1, hfz9_2, hfz9_3, hfz9_4⟩ := zn5 BK300; have p301 : 0 ≤ (a1 : Int) := za; have q301 : a1 < (l0_2.length : Int) := za; obtain ⟨ad301, e301, hx301_0, hx301_1, hx301_2, hx301_3, hx301_4, hx301_5, hx301_6⟩ := at_T88 HR0_2.out a1 p301 q301; cases e301; replace hx301_0 := zx HB hx301_0; replace hx301_1 := zx HB hx301_1; replace hx301_2 := zx HB hx301_2; replace hx301_3 := zx HB hx301_3; replace hx301_4 := zx HB hx301_4; replace hx301_5 := zx HB hx301_5; replace hx301_6 := zx HB hx301_6; replace p301 := eq_true p301; replace q301 := eq_true q301; have p302 : 0 ≤ (a1 : Int) := za; have q302 : a1 < (l0_2.length : Int) := za; obtain ⟨ad302, e302, hx302_0, hx302_1, hx302_2, hx302_3, hx302_4, hx302_5, hx302_6⟩ := at_T88 HR0_2.out a1 p302 q302; obtain rfl : ad301 = ad302 := (by injection e302); replace hx302_0 := zx HB hx302_0; replace hx302_1 := zx HB hx302_1; replace hx302_2 := zx HB hx302_2; replace hx302_3 := zx HB hx302_3; replace hx302_4 := zx HB hx302_4; replace hx302_5 := zx HB hx302_5; replace hx302_6 := zx HB hx302_6; replace p302 := eq_true p302; replace q302 := eq_true q302)))
 go_ret2
 exact ⟨ze, zs1 HB GE300⟩
end Go.Proofs.Ytidenmcoilmbcaa.QFnExactFlyGo
