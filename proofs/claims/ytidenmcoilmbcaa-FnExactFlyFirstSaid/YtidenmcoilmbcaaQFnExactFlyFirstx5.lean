/- The walk of what the law FnExactFlyFirst reaches: laid by a program of this session (ownprint.py). -/
import Derived.Test.YtidenmcoilmbcaaQFnExactFlyFirstx0
namespace Go.Proofs.Ytidenmcoilmbcaa.QFnExactFlyFirst
open Go.RowKit Go.Proofs.YtidenmcoilmbcaaW.PrintWords Go.Proofs.YtidenmcoilmbcaaW.PrintLast Go.Proofs.YtidenmcoilmbcaaW.PrintMore Go.Proofs.Ytidenmcoilmbcaa.Z
attribute [local go_sem] max2_int min2_int max_two min_two max_three min_three max_four min_four zdn   -- for this text's walks alone
set_option linter.unusedVariables false
set_option linter.unusedSimpArgs false
def impl_FlyPath_bound.f (a0_0 : Int) (a0_1 : Int) (l0_2 : List (S88)) (a0_3 : Int) (a0_4 : Int) (a1 : Int) : Option (Int × Int) := if a1 = (l0_2.length : Int) then (some (a0_3, a0_4)) else (if 0 ≤ a1 then (if a1 < (l0_2.length : Int) then (some ((rd_T88 l0_2 a1).f4, (rd_T88 l0_2 a1).f5)) else (none)) else (none))
set_option maxHeartbeats 8000000 in
set_option maxRecDepth 100000 in
theorem impl_FlyPath_bound.calls (a0_0 : Int) (a0_1 : Int) (A0_2 : Option Addr) (c0_2 : Nat) (l0_2 : List (S88)) (a0_3 : Int) (a0_4 : Int) (a1 : Int) (r1 : Int) (r2 : Int) (w : World) (hr0_2 : Kd.C k88 w A0_2 l0_2.length l0_2) (hc0_2 : l0_2.length ≤ c0_2) (h : impl_FlyPath_bound.f a0_0 a0_1 l0_2 a0_3 a0_4 a1 = some (r1, r2)) :
 Calls Try.prog 67 #[.agg #[.int .i64 a0_0, .int .i64 a0_1, .slice A0_2 l0_2.length c0_2, .int .i64 a0_3, .int .i64 a0_4], .int .i64 a1] w fun e w' => e = .returned (.tuple #[.int .i64 r1, .int .i64 r2]) ∧ Below w.heap.size w w' := by
 have hu34 := Try.underlying34
 have HR0_2 := Aside0.mk hr0_2
 have HC0_2 := Aside0.mk hc0_2
 clear hr0_2 hc0_2
 have HB := Aside0.mk (Below.refl w.heap.size w)
 have H : (if a1 = (l0_2.length : Int) then (some (a0_3, a0_4)) else (if 0 ≤ a1 then (if a1 < (l0_2.length : Int) then (some ((rd_T88 l0_2 a1).f4, (rd_T88 l0_2 a1).f5)) else (none)) else (none))) = some (r1, r2) := h
 clear h
 by_cases c3 : a1 = (l0_2.length : Int)
 ·rw [if_pos c3] at H
  have c3b0 : (a1 == (l0_2.length : Int)) = true := beq_iff_eq.mpr c3
  have c3b1 : (a1 != (l0_2.length : Int)) = false := bne_eq_false_iff_eq.mpr c3
  clear c3
  simp only [Option.some.injEq, Prod.mk.injEq] at H
  obtain ⟨rfl, rfl⟩ := H
  go_enter Try.func67, Try.ntmps67
  go_wp2_with (first | ((with_reducible refine gate_dst (N := 2) rfl ?_); refine box_event (by rfl) (N := 2) (by rfl) (cs := #[.int .i64 a0_0, .int .i64 a0_1, .slice A0_2 l0_2.length c0_2, .int .i64 a0_3, .int .i64 a0_4]) (t := 34) zg ?_; intro gb170 hg w4 hbox hb; have n0_ := Aside0.mk (below_step (zs0 HB) hb); have n1_ := Aside0.mk (hbox); have n2_ := Aside0.mk ((by rw [hg]; exact (below_size (zs0 HB)) : w.heap.size ≤ gb170)); have n3_ := Aside0.mk ((by rw [hg]; exact (below_size (zs0 HB)) : w.heap.size ≤ gb170)); clear HB; have HB := n0_; have BK170 := n1_; have GW170 := n2_; have GE170 := n3_; clear n0_ n1_ n2_ n3_; clear hb hbox hg; obtain ⟨hcz5_0, hcz5_1, hcz5_2, hcz5_3, hcz5_4⟩ := zd5 BK170; obtain ⟨hfz5_0, hfz5_1, hfz5_2, hfz5_3, hfz5_4⟩ := zn5 BK170))
  repeat (go_quiet (first | ((with_reducible refine gate_dst (N := 2) rfl ?_); refine box_event (by rfl) (N := 2) (by rfl) (cs := #[.int .i64 a0_0, .int .i64 a0_1, .slice A0_2 l0_2.length c0_2, .int .i64 a0_3, .int .i64 a0_4]) (t := 34) zg ?_; intro gb170 hg w4 hbox hb; have n0_ := Aside0.mk (below_step (zs0 HB) hb); have n1_ := Aside0.mk (hbox); have n2_ := Aside0.mk ((by rw [hg]; exact (below_size (zs0 HB)) : w.heap.size ≤ gb170)); have n3_ := Aside0.mk ((by rw [hg]; exact (below_size (zs0 HB)) : w.heap.size ≤ gb170)); clear HB; have HB := n0_; have BK170 := n1_; have GW170 := n2_; have GE170 := n3_; clear n0_ n1_ n2_ n3_; clear hb hbox hg; obtain ⟨hcz5_0, hcz5_1, hcz5_2, hcz5_3, hcz5_4⟩ := zd5 BK170; obtain ⟨hfz5_0, hfz5_1, hfz5_2, hfz5_3, hfz5_4⟩ := zn5 BK170)); try go_wp2_with (first | ((with_reducible refine gate_dst (N := 2) rfl ?_); refine box_event (by rfl) (N := 2) (by rfl) (cs := #[.int .i64 a0_0, .int .i64 a0_1, .slice A0_2 l0_2.length c0_2, .int .i64 a0_3, .int .i64 a0_4]) (t := 34) zg ?_; intro gb170 hg w4 hbox hb; have n0_ := Aside0.mk (below_step (zs0 HB) hb); have n1_ := Aside0.mk (hbox); have n2_ := Aside0.mk ((by rw [hg]; exact (below_size (zs0 HB)) : w.heap.size ≤ gb170)); have n3_ := Aside0.mk ((by rw [hg]; exact (below_size (zs0 HB)) : w.heap.size ≤ gb170)); clear HB; have HB := n0_; have BK170 := n1_; have GW170 := n2_; have GE170 := n3_; clear n0_ n1_ n2_ n3_; clear hb hbox hg; obtain ⟨hcz5_0, hcz5_1, hcz5_2, hcz5_3, hcz5_4⟩ := zd5 BK170; obtain ⟨hfz5_0, hfz5_1, hfz5_2, hfz5_3, hfz5_4⟩ := zn5 BK170)))
  go_ret2
  exact ⟨ze, zs1 HB GE170⟩
 rw [if_neg c3] at H
 have c3b0 : (a1 == (l0_2.length : Int)) = false := beq_eq_false_iff_ne.mpr c3
 have c3b1 : (a1 != (l0_2.length : Int)) = true := bne_iff_ne.mpr c3
 by_cases c6 : 0 ≤ a1
 rotate_left
 ·rw [if_neg c6] at H
  exact absurd H (by simp)
 rw [if_pos c6] at H
 have c6b0 : decide (0 ≤ a1) = true := decide_eq_true c6
 clear c6
 by_cases c7 : a1 < (l0_2.length : Int)
 rotate_left
 ·rw [if_neg c7] at H
  exact absurd H (by simp)
 rw [if_pos c7] at H
 have c7b0 : decide (a1 < (l0_2.length : Int)) = true := decide_eq_true c7
 clear c7
 simp only [Option.some.injEq, Prod.mk.injEq] at H
 obtain ⟨rfl, rfl⟩ := H
 go_enter Try.func67, Try.ntmps67
 go_wp2_with (first | ((with_reducible refine gate_dst (N := 2) rfl ?_); refine box_event (by rfl) (N := 2) (by rfl) (cs := #[.int .i64 a0_0, .int .i64 a0_1, .slice A0_2 l0_2.length c0_2, .int .i64 a0_3, .int .i64 a0_4]) (t := 34) zg ?_; intro gb170 hg w8 hbox hb; have n0_ := Aside0.mk (below_step (zs0 HB) hb); have n1_ := Aside0.mk (hbox); have n2_ := Aside0.mk ((by rw [hg]; exact (below_size (zs0 HB)) : w.heap.size ≤ gb170)); have n3_ := Aside0.mk ((by rw [hg]; exact (below_size (zs0 HB)) : w.heap.size ≤ gb170)); clear HB; have HB := n0_; have BK170 := n1_; have GW170 := n2_; have GE170 := n3_; clear n0_ n1_ n2_ n3_; clear hb hbox hg; obtain ⟨hcz9_0, hcz9_1, hcz9_2, hcz9_3, hcz9_4⟩ := zd5 BK170; obtain ⟨hfz9_0, hfz9_1, hfz9_2, hfz9_3, hfz9_4⟩ := zn5 BK170; have p171 : 0 ≤ (a1 : Int) := za; have q171 : a1 < (l0_2.length : Int) := za; obtain ⟨ad171, e171, hx171_0, hx171_1, hx171_2, hx171_3, hx171_4, hx171_5, hx171_6⟩ := at_T88 HR0_2.out a1 p171 q171; cases e171; replace hx171_0 := zx HB hx171_0; replace hx171_1 := zx HB hx171_1; replace hx171_2 := zx HB hx171_2; replace hx171_3 := zx HB hx171_3; replace hx171_4 := zx HB hx171_4; replace hx171_5 := zx HB hx171_5; replace hx171_6 := zx HB hx171_6; replace p171 := eq_true p171; replace q171 := eq_true q171; have p172 : 0 ≤ (a1 : Int) := za; have q172 : a1 < (l0_2.length : Int) := za; obtain ⟨ad172, e172, hx172_0, hx172_1, hx172_2, hx172_3, hx172_4, hx172_5, hx172_6⟩ := at_T88 HR0_2.out a1 p172 q172; obtain rfl : ad171 = ad172 := (by injection e172); replace hx172_0 := zx HB hx172_0; replace hx172_1 := zx HB hx172_1; replace hx172_2 := zx HB hx172_2; replace hx172_3 := zx HB hx172_3; replace hx172_4 := zx HB hx172_4; replace hx172_5 := zx HB hx172_5; replace hx172_6 := zx HB hx172_6; replace p172 := eq_true p172; replace q172 := eq_true q172))
 repeat (go_quiet (first | ((with_reducible refine gate_dst (N := 2) rfl ?_); refine box_event (by rfl) (N := 2) (by rfl) (cs := #[.int .i64 a0_0, .int .i64 a0_1, .slice A0_2 l0_2.length c0_2, .int .i64 a0_3, .int .i64 a0_4]) (t := 34) zg ?_; intro gb170 hg w8 hbox hb; have n0_ := Aside0.mk (below_step (zs0 HB) hb); have n1_ := Aside0.mk (hbox); have n2_ := Aside0.mk ((by rw [hg]; exact (below_size (zs0 HB)) : w.heap.size ≤ gb170)); have n3_ := Aside0.mk ((by rw [hg]; exact (below_size (zs0 HB)) : w.heap.size ≤ gb170)); clear HB; have HB := n0_; have BK170 := n1_; have GW170 := n2_; have GE170 := n3_; clear n0_ n1_ n2_ n3_; clear hb hbox hg; obtain ⟨hcz9_0, hcz9_1, hcz9_2, hcz9_3, hcz9_4⟩ := zd5 BK170; obtain ⟨hfz9_0, hfz9_1, hfz9_2, hfz9_3, hfz9_4⟩ := zn5 BK170; have p171 : 0 ≤ (a1 : Int) := za; have q171 : a1 < (l0_2.length : Int) := za; obtain ⟨ad171, e171, hx171_0, hx171_1, hx171_2, hx171_3, hx171_4, hx171_5, hx171_6⟩ := at_T88 HR0_2.out a1 p171 q171; cases e171; replace hx171_0 := zx HB hx171_0; replace hx171_1 := zx HB hx171_1; replace hx171_2 := zx HB hx171_2; replace hx171_3 := zx HB hx171_3; replace hx171_4 := zx HB hx171_4; replace hx171_5 := zx HB hx171_5; replace hx171_6 := zx HB hx171_6; replace p171 := eq_true p171; replace q171 := eq_true q171; have p172 : 0 ≤ (a1 : Int) := za; have q172 : a1 < (l0_2.length : Int) := za; obtain ⟨ad172, e172, hx172_0, hx172_1, hx172_2, hx172_3, hx172_4, hx172_5, hx172_6⟩ := at_T88 HR0_2.out a1 p172 q172; obtain rfl : ad171 = ad172 := (by injection e172); replace hx172_0 := zx HB hx172_0; replace hx172_1 := zx HB hx172_1; replace hx172_2 := zx HB hx172_2; replace hx172_3 := zx HB hx172_3; replace hx172_4 := zx HB hx172_4; replace hx172_5 := zx HB hx172_5; replace hx172_6 := zx HB hx172_6; replace p172 := eq_true p172; replace q172 := eq_true q172)); try go_wp2_with (first | ((with_reducible refine gate_dst (N := 2) rfl ?_); refine box_event (by rfl) (N := 2) (by rfl) (cs := #[.int .i64 a0_0, .int .i64 a0_1, .slice A0_2 l0_2.length c0_2, .int .i64 a0_3, .int .i64 a0_4]) (t := 34) zg ?_; intro gb170 hg w8 hbox hb; have n0_ := Aside0.mk (below_step (zs0 HB) hb); have n1_ := Aside0.mk (hbox); have n2_ := Aside0.mk ((by rw [hg]; exact (below_size (zs0 HB)) : w.heap.size ≤ gb170)); have n3_ := Aside0.mk ((by rw [hg]; exact (below_size (zs0 HB)) : w.heap.size ≤ gb170)); clear HB; have HB := n0_; have BK170 := n1_; have GW170 := n2_; have GE170 := n3_; clear n0_ n1_ n2_ n3_; clear hb hbox hg; obtain ⟨hcz9_0, hcz9_1, hcz9_2, hcz9_3, hcz9_4⟩ := zd5 BK170; obtain ⟨hfz9_0, hfz9_1, hfz9_2, hfz9_3, hfz9_4⟩ := zn5 BK170; have p171 : 0 ≤ (a1 : Int) := za; have q171 : a1 < (l0_2.length : Int) := za; obtain ⟨ad171, e171, hx171_0, hx171_1, hx171_2, hx171_3, hx171_4, hx171_5, hx171_6⟩ := at_T88 HR0_2.out a1 p171 q171; cases e171; replace hx171_0 := zx HB hx171_0; replace hx171_1 := zx HB hx171_1; replace hx171_2 := zx HB hx171_2; replace hx171_3 := zx HB hx171_3; replace hx171_4 := zx HB hx171_4; replace hx171_5 := zx HB hx171_5; replace hx171_6 := zx HB hx171_6; replace p171 := eq_true p171; replace q171 := eq_true q171; have p172 : 0 ≤ (a1 : Int) := za; have q172 : a1 < (l0_2.length : Int) := za; obtain ⟨ad172, e172, hx172_0, hx172_1, hx172_2, hx172_3, hx172_4, hx172_5, hx172_6⟩ := at_T88 HR0_2.out a1 p172 q172; obtain rfl : ad171 = ad172 := (by injection e172); replace hx172_0 := zx HB hx172_0; replace hx172_1 := zx HB hx172_1; replace hx172_2 := zx HB hx172_2; replace hx172_3 := zx HB hx172_3; replace hx172_4 := zx HB hx172_4; replace hx172_5 := zx HB hx172_5; replace hx172_6 := zx HB hx172_6; replace p172 := eq_true p172; replace q172 := eq_true q172)))
 go_ret2
 exact ⟨ze, zs1 HB GE170⟩
end Go.Proofs.Ytidenmcoilmbcaa.QFnExactFlyFirst
