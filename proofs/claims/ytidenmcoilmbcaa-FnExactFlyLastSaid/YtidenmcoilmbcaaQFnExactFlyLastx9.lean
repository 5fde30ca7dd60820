/- The walk of what the law FnExactFlyLast reaches: laid by a program of this session (ownprint.py). -/
import Derived.Test.YtidenmcoilmbcaaQFnExactFlyLastx0
namespace Go.Proofs.Ytidenmcoilmbcaa.QFnExactFlyLast
open Go.RowKit Go.Proofs.YtidenmcoilmbcaaW.PrintWords Go.Proofs.YtidenmcoilmbcaaW.PrintLast Go.Proofs.YtidenmcoilmbcaaW.PrintMore Go.Proofs.Ytidenmcoilmbcaa.Z
attribute [local go_sem] max2_int min2_int max_two min_two max_three min_three max_four min_four zdn   -- for this text's walks alone
set_option linter.unusedVariables false
set_option linter.unusedSimpArgs false
def impl_FlyPath_bound.f (a0_0 : Int) (a0_1 : Int) (l0_2 : List (S88)) (a0_3 : Int) (a0_4 : Int) (a1 : Int) : Option (Int × Int) := if a1 = (l0_2.length : Int) then (some (a0_3, a0_4)) else (if 0 ≤ a1 then (if a1 < (l0_2.length : Int) then (some ((rd_T88 l0_2 a1).f4, (rd_T88 l0_2 a1).f5)) else (none)) else (none))
set_option maxHeartbeats 8000000 in
set_option maxRecDepth 100000 in
theorem impl_FlyPath_bound.calls (a0_0 : Int) (a0_1 : Int) (A0_2 : Option Addr) (c0_2 : Nat) (l0_2 : List (S88)) (a0_3 : Int) (a0_4 : Int) (a1 : Int) (r1 : Int) (r2 : Int) (w : World) (hr0_2 : Kd.C k88 w A0_2 l0_2.length l0_2) (hc0_2 : l0_2.length ≤ c0_2) (h : impl_FlyPath_bound.f a0_0 a0_1 l0_2 a0_3 a0_4 a1 = some (r1, r2)) :
 Calls Try.prog 67 #[.agg #[.int .i64 a0_0, .int .i64 a0_1, .slice A0_2 l0_2.length c0_2, .int .i64 a0_3, .int .i64 a0_4], .int .i64 a1] w fun e w' => e = .returned (.tuple #[.int .i64 r1, .int .i64 r2]) ∧ Below w.heap.size w w' := by
 have hu34 := Try.underlying34
 have HR0_2 := Aside0.mk hr0_2
 have HC0_2 := Aside0.mk hc0_2
 clear hr0_2 hc0_2
 have HB := Aside0.mk (Below.refl w.heap.size w)
 have H : (if a1 = (l0_2.length : Int) then (some (a0_3, a0_4)) else (if 0 ≤ a1 then (if a1 < (l0_2.length : Int) then (some ((rd_T88 l0_2 a1).f4, (rd_T88 l0_2 a1).f5)) else (none)) else (none))) = some (r1, r2) := h
 clear h
 by_cases c3 : a1 = (l0_2.length : Int)
 ·rw [if_pos c3] at H
  have c3b0 : (a1 == (l0_2.length : Int)) = true := beq_iff_eq.mpr c3
  have c3b1 : (a1 != (l0_2.length : Int)) = false := bne_eq_false_iff_eq.mpr c3
  clear c3
  simp only [Option.some.injEq, Prod.mk.injEq] at H
  obtain ⟨rfl, rfl⟩ := H
  go_enter Try.func67, Try.ntmps67
  go_wp2_with (first | ((with_reducible refine gate_dst (N := 2) rfl ?_); refine box_event (by rfl) (N := 2) (by rfl) (cs := #[.int .i64 a0_0, .int .i64 a0_1, .slice A0_2 l0_2.length c0_2, .int .i64 a0_3, .int .i64 a0_4]) (t := 34) zg ?_; intro gb255 hg w4 hbox hb; have n0_ := Aside0.mk (below_step (zs0 HB) hb); have n1_ := Aside0.mk (hbox); have n2_ := Aside0.mk ((by rw [hg]; exact (below_size (zs0 HB)) : w.heap.size ≤ gb255)); have n3_ := Aside0.mk ((by rw [hg]; exact (below_size (zs0 HB)) : w.heap.size ≤ gb255)); clear HB; have HB := n0_; have BK255 := n1_; have GW255 := n2_; have GE255 := n3_; clear n0_ n1_ n2_ n3_; clear hb hbox hg; obtain ⟨hcz5_0, hcz5_1, hcz5_2, hcz5_3, hcz5_4⟩ := zd5 BK255; obtain ⟨hfz5_0, hfz5_1, hfz5_2, hfz5_3, hfz5_4⟩ := zn5 BK255))
  repeat (go_quiet (first | ((with_reducible refine gate_dst (N := 2) rfl ?_); refine box_event (by rfl) (N := 2) (by rfl) (cs := #[.int .i64 a0_0, .int .i64 a0_1, .slice A0_2 l0_2.length c0_2, .int .i64 a0_3, .int .i64 a0_4]) (t := 34) zg ?_; intro gb255 hg w4 hbox hb; have n0_ := Aside0.mk (below_step (zs0 HB) hb); have n1_ := Aside0.mk (hbox); have n2_ := Aside0.mk ((by rw [hg]; exact (below_size (zs0 HB)) : w.heap.size ≤ gb255)); have n3_ := Aside0.mk ((by rw [hg]; exact (below_size (zs0 HB)) : w.heap.size ≤ gb255)); clear HB; have HB := n0_; have BK255 := n1_; have GW255 := n2_; have GE255 := n3_; clear n0_ n1_ n2_ n3_; clear hb hbox hg; obtain ⟨hcz5_0, hcz5_1, hcz5_2, hcz5_3, hcz5_4⟩ := zd5 BK255; obtain ⟨hfz5_0, hfz5_1, hfz5_2, hfz5_3, hfz5_4⟩ := zn5 BK255)); try go_wp2_with (first | ((with_reducible refine gate_dst (N := 2) rfl ?_); refine box_event (by rfl) (N := 2) (by rfl) (cs := #[.int .i64 a0_0, .int .i64 a0_1, .slice A0_2 l0_2.length c0_2, .int .i64 a0_3, .int .i64 a0_4]) (t := 34) zg ?_; intro gb255 hg w4 hbox hb; have n0_ := Aside0.mk (below_step (zs0 HB) hb); have n1_ := Aside0.mk (hbox); have n2_ := Aside0.mk ((by rw [hg]; exact (below_size (zs0 HB)) : w.heap.size ≤ gb255)); have n3_ := Aside0.mk ((by rw [hg]; exact (below_size (zs0 HB)) : w.heap.size ≤ gb255)); clear HB; have HB := n0_; have BK255 := n1_; have GW255 := n2_; have GE255 := n3_; clear n0_ n1_ n2_ n3_; clear hb hbox hg; obtain ⟨hcz5_0, hcz5_1, hcz5_2, hcz5_3, hcz5_4⟩ := zd5 BK255; obtain ⟨hfz5_0, hfz5_1, hfz5_2, hfz5_3, hfz5_4⟩ := zn5 BK255)))
  go_ret2
  exact ⟨ze, zs1 HB GE255⟩
 rw [if_neg c3] at H
 have c3b0 : (a1 == (l0_2.length : Int)) = false := beq_eq_false_iff_ne.mpr c3
 have c3b1 : (a1 != (l0_2.length : Int)) = true := bne_iff_ne.mpr c3
 by_cases c6 : 0 ≤ a1
 rotate_left
 ·rw [if_neg c6] at H
  exact absurd H (by simp)
 rw [if_pos c6] at H
 have c6b0 : decide (0 ≤ a1) = true := decide_eq_true c6
 clear c6
 by_cases c7 : a1 < (l0_2.length : Int)
 rotate_left
 ·rw [if_neg c7] at H
  exact absurd H (by simp)
 rw [if_pos c7] at H
 have c7b0 : decide (a1 < (l0_2.length : Int)) = true := decide_eq_true c7
 clear c7
 simp only [Option.some.injEq, Prod.mk.injEq] at H
 obtain ⟨rfl, rfl⟩ := H
 go_enter Try.func67, Try.ntmps67
 go_wp2_with (first | ((with_reducible refine gate_dst (N := 2) rfl ?_); refine box_event (by rfl) (N := 2) (by rfl) (cs := #[.int .i64 a0_0, .int .i64 a0_1, .slice A0_2 l0_2.length c0_2, .int .i64 a0_3, .int .i64 a0_4]) (t := 34) zg ?_; intro gb255 hg w8 hbox hb; have n0_ := Aside0.mk (below_step (zs0 HB) hb); have n1_ := Aside0.mk (hbox); have n2_ := Aside0.mk ((by rw [hg]; exact (below_size (zs0 HB)) : w.heap.size ≤ gb255)); have n3_ := Aside0.mk ((by rw [hg]; exact (below_size (zs0 HB)) : w.heap.size ≤ gb255)); clear HB; have HB := n0_; have BK255 := n1_; have GW255 := n2_; have GE255 := n3_; clear n0_ n1_ n2_ n3_; clear hb hbox hg; obtain ⟨hcz9_0, hcz9_1, hcz9_2, hcz9_3, hcz9_4⟩ := zd5 BK255; obtain ⟨hfz9_0, hfz9_1, hfz9_2, hfz9_3, hfz9_4⟩ := zn5 BK255; have p256 : 0 ≤ (a1 : Int) := za; have q256 : a1 < (l0_2.length : Int) := za; obtain ⟨ad256, e256, hx256_0, hx256_1, hx256_2, hx256_3, hx256_4, hx256_5, hx256_6⟩ := at_T88 HR0_2.out a1 p256 q256; cases e256; replace hx256_0 := zx HB hx256_0; replace hx256_1 := zx HB hx256_1; replace hx256_2 := zx HB hx256_2; replace hx256_3 := zx HB hx256_3; replace hx256_4 := zx HB hx256_4; replace hx256_5 := zx HB hx256_5; replace hx256_6 := zx HB hx256_6; replace p256 := eq_true p256; replace q256 := eq_true q256; have p257 : 0 ≤ (a1 : Int) := za; have q257 : a1 < (l0_2.length : Int) := za; obtain ⟨ad257, e257, hx257_0, hx257_1, hx257_2, hx257_3, hx257_4, hx257_5, hx257_6⟩ := at_T88 HR0_2.out a1 p257 q257; obtain rfl : ad256 = ad257 := (by injection e257); replace hx257_0 := zx HB hx257_0; replace hx257_1 := zx HB hx257_1; replace hx257_2 := zx HB hx257_2; replace hx257_3 := zx HB hx257_3; replace hx257_4 := zx HB hx257_4; replace hx257_5 := zx HB hx257_5; replace hx257_6 := zx HB hx257_6; replace p257 := eq_true p257; replace q257 := eq_true q257))
 repeat (go_quiet (first | ((with_reducible refine gate_dst (N := 2) rfl ?_); refine box_event (by rfl) (N := 2) (by rfl) (cs := #[.int .i64 a0_0, .int .i64 a0_1, .slice A0_2 l0_2.length c0_2, .int .i64 a0_3, .int .i64 a0_4]) (t := 34) zg ?_; intro gb255 hg w8 hbox hb; have n0_ := Aside0.mk (below_step (zs0 HB) hb); have n1_ := Aside0.mk (hbox); have n2_ := Aside0.mk ((by rw [hg]; exact (below_size (zs0 HB)) : w.heap.size ≤ gb255)); have n3_ := Aside0.mk ((by rw [hg]; exact (below_size (zs0 HB)) : w.heap.size ≤ gb255)); clear HB; have HB := n0_; have BK255 := n1_; have GW255 := n2_; have GE255 := n3_; clear n0_ n1_ n2_ n3_; clear hb hbox hg; obtain ⟨hcz9_0, hcz9_1, hcz9_2, hcz9_3, hcz9_4⟩ := zd5 BK255; obtain ⟨hfz9_0, hfz9_1, hfz9_2, hfz9_3, hfz9_4⟩ := zn5 BK255; have p256 : 0 ≤ (a1 : Int) := za; have q256 : a1 < (l0_2.length : Int) := za; obtain ⟨ad256, e256, hx256_0, hx256_1, hx256_2, hx256_3, hx256_4, hx256_5, hx256_6⟩ := at_T88 HR0_2.out a1 p256 q256; cases e256; replace hx256_0 := zx HB hx256_0; replace hx256_1 := zx HB hx256_1; replace hx256_2 := zx HB hx256_2; replace hx256_3 := zx HB hx256_3; replace hx256_4 := zx HB hx256_4; replace hx256_5 := zx HB hx256_5; replace hx256_6 := zx HB hx256_6; replace p256 := eq_true p256; replace q256 := eq_true q256; have p257 : 0 ≤ (a1 : Int) := za; have q257 : a1 < (l0_2.length : Int) := za; obtain ⟨ad257, e257, hx257_0, hx257_1, hx257_2, hx257_3, hx257_4, hx257_5, hx257_6⟩ := at_T88 HR0_2.out a1 p257 q257; obtain rfl : ad256 = ad257 := (by injection e257); replace hx257_0 := zx HB hx257_0; replace hx257_1 := zx HB hx257_1; replace hx257_2 := zx HB hx257_2; replace hx257_3 := zx HB hx257_3; replace hx257_4 := zx HB hx257_4; replace hx257_5 := zx HB hx257_5; replace hx257_6 := zx HB hx257_6; replace p257 := eq_true p257; replace q257 := eq_true q257)); try go_wp2_with (first | ((with_reducible refine gate_dst (N := 2) rfl ?_); refine box_event (by rfl) (N := 2) (by rfl) (cs := #[.int .i64 a0_0, .int .i64 a0_1, .slice A0_2 l0_2.length c0_2, .int .i64 a0_3, .int .i64 a0_4]) (t := 34) zg ?_; intro gb255 hg w8 hbox hb; have n0_ := Aside0.mk (below_step (zs0 HB) hb); have n1_ := Aside0.mk (hbox); have n2_ := Aside0.mk ((by rw [hg]; exact (below_size (zs0 HB)) : w.heap.size ≤ gb255)); have n3_ := Aside0.mk ((by rw [hg]; exact (below_size (zs0 HB)) : w.heap.size ≤ gb255)); clear HB; have HB := n0_; have BK255 := n1_; have GW255 := n2_; have GE255 := n3_; clear n0_ n1_ n2_ n3_; clear hb hbox hg; obtain ⟨hcz9_0, hcz9_1, hcz9_2, hcz9_3, hcz9_4⟩ := zd5 BK255; obtain ⟨hfz9_0, hfz9_1, hfz9_2, hfz9_3, hfz9_4⟩ := zn5 BK255; have p256 : 0 ≤ (a1 : Int) := za; have q256 : a1 < (l0_2.length : Int) := za; obtain ⟨ad256, e256, hx256_0, hx256_1, hx256_2, hx256_3, hx256_4, hx256_5, hx256_6⟩ := at_T88 HR0_2.out a1 p256 q256; cases e256; replace hx256_0 := zx HB hx256_0; replace hx256_1 := zx HB hx256_1; replace hx256_2 := zx HB hx256_2; replace hx256_3 := zx HB hx256_3; replace hx256_4 := zx HB hx256_4; replace hx256_5 := zx HB hx256_5; replace hx256_6 := zx HB hx256_6; replace p256 := eq_true p256; replace q256 := eq_true q256; have p257 : 0 ≤ (a1 : Int) := za; have q257 : a1 < (l0_2.length : Int) := za; obtain ⟨ad257, e257, hx257_0, hx257_1, hx257_2, hx257_3, hx257_4, hx257_5, hx257_6⟩ := at_T88 HR0_2.out a1 p257 q257; obtain rfl : ad256 = ad257 := (by injection e257); replace hx257_0 := zx HB hx257_0; replace hx257_1 := zx HB hx257_1; replace hx257_2 := zx HB hx257_2; replace hx257_3 := zx HB hx257_3; replace hx257_4 := zx HB hx257_4; replace hx257_5 := zx HB hx257_5; replace hx257_6 := zx HB hx257_6; replace p257 := eq_true p257; replace q257 := eq_true q257)))
 go_ret2
 exact ⟨ze, zs1 HB GE255⟩
end Go.Proofs.Ytidenmcoilmbcaa.QFnExactFlyLast
