/- The walk of what the law FnExactFlyLast reaches: laid by a program of this session (ownprint.py). -/
import Derived.Test.YtidenmcoilmbcaaQFnExactFlyLastx0
import Derived.Test.YtidenmcoilmbcaaQFnExactFlyLastx3
namespace Go.Proofs.Ytidenmcoilmbcaa.QFnExactFlyLast
open Go.RowKit Go.Proofs.YtidenmcoilmbcaaW.PrintWords Go.Proofs.YtidenmcoilmbcaaW.PrintLast Go.Proofs.YtidenmcoilmbcaaW.PrintMore Go.Proofs.Ytidenmcoilmbcaa.Z
attribute [local go_sem] max2_int min2_int max_two min_two max_three min_three max_four min_four zdn   -- for this text's walks alone
set_option linter.unusedVariables false
set_option linter.unusedSimpArgs false
mutual
def spec_FlyPathOk.j0 : Nat → Bool → Int → Int → List (S88) → Int → Int → Option (Bool)
 | 0, _, _, _, _, _, _ => none
 | k + 1, x27, x166000, x166001, x166002, x166003, x166004 => if x27 = true then (some false) else (spec_FlyPathOk.l0 k 0 x166000 x166001 x166002 x166003 x166004)
def spec_FlyPathOk.l0 : Nat → Int → Int → Int → List (S88) → Int → Int → Option (Bool)
 | 0, _, _, _, _, _, _ => none
 | k + 1, x3, x166000, x166001, x166002, x166003, x166004 => if x3 < (x166002.length : Int) then (if 0 ≤ x3 then ((spec_l22StepOk.f ((rd_T88 x166002 x3).f0) ((rd_T88 x166002 x3).f1) ((rd_T88 x166002 x3).f2) ((rd_T88 x166002 x3).f3) ((rd_T88 x166002 x3).f4) ((rd_T88 x166002 x3).f5) ((rd_T88 x166002 x3).f6)).bind fun t170 => (if t170 = true then (if x3 > 0 then (if 0 ≤ (wrap64 (x3 - 1)) then (if (wrap64 (x3 - 1)) < (x166002.length : Int) then ((spec_l22Next.f ((rd_T88 x166002 (wrap64 (x3 - 1))).f0) ((rd_T88 x166002 (wrap64 (x3 - 1))).f1) ((rd_T88 x166002 (wrap64 (x3 - 1))).f2) ((rd_T88 x166002 (wrap64 (x3 - 1))).f3) ((rd_T88 x166002 (wrap64 (x3 - 1))).f4) ((rd_T88 x166002 (wrap64 (x3 - 1))).f5) ((rd_T88 x166002 (wrap64 (x3 - 1))).f6) ((rd_T88 x166002 x3).f0) ((rd_T88 x166002 x3).f1) ((rd_T88 x166002 x3).f2) ((rd_T88 x166002 x3).f3) ((rd_T88 x166002 x3).f4) ((rd_T88 x166002 x3).f5) ((rd_T88 x166002 x3).f6)).bind fun t173 => (if t173 = true then (spec_FlyPathOk.l0 k (wrap64 (x3 + 1)) x166000 x166001 x166002 x166003 x166004) else (some false))) else (none)) else (none)) else (spec_FlyPathOk.l0 k (wrap64 (x3 + 1)) x166000 x166001 x166002 x166003 x166004)) else (some false))) else (none)) else (some true)
end
def spec_FlyPathOk.f (k : Nat) (a0_0 : Int) (a0_1 : Int) (l0_2 : List (S88)) (a0_3 : Int) (a0_4 : Int) : Option (Bool) := (spec_FlyKindOk.f a0_0 a0_1).bind fun t166 => (if t166 = true then ((spec_l21In.f (l0_2.length : Int) 1 40).bind fun t167 => (if t167 = true then ((spec_l21In.f a0_3 0 a0_4).bind fun t168 => (if t168 = true then (spec_FlyPathOk.j0 k (decide (a0_4 > 10000)) a0_0 a0_1 l0_2 a0_3 a0_4) else (spec_FlyPathOk.j0 k true a0_0 a0_1 l0_2 a0_3 a0_4))) else (spec_FlyPathOk.j0 k true a0_0 a0_1 l0_2 a0_3 a0_4))) else (spec_FlyPathOk.j0 k true a0_0 a0_1 l0_2 a0_3 a0_4))
def spec_FlyPathOk.T6 : Bool × List (List Nat × List Nat) := (true, [([], []), ([0], [0]), ([], []), ([1, 2], [1, 2]), ([3], [3]), ([4], [4]), ([5], [5]), ([6, 5], [6]), ([7], [7]), ([8, 7], [7, 8]), ([9, 7, 7], [7, 9]), ([10], [10]), ([11, 10], [10, 11]), ([10], [10]), ([13, 10], [10, 13]), ([12, 14, 10], [10, 12, 14]), ([15, 10], [10, 15]), ([10], [10]), ([17, 10], [10, 17]), ([10], [10]), ([18, 19, 10], [10, 18, 19]), ([20, 10], [10, 20]), ([16, 21, 10, 10], [10, 16, 21]), ([22, 10], [10, 22]), ([10, 23, 7], [7, 10, 23]), ([7, 24], [7, 24])])
def spec_FlyPathOk.B6 : List Nat := [0, 1, 0, 7, 15, 31, 63, 127, 255, 511, 1023, 2047, 4095, 2047, 10239, 32767, 65535, 2047, 133119, 2047, 919551, 1968127, 4194303, 8388607, 16777215, 33554431]
theorem spec_FlyPathOk.tab6 : rtab .any (opsOf Try.f32 6) = spec_FlyPathOk.T6 := by kernel_rfl
theorem spec_FlyPathOk.bits6 : waitsOk spec_FlyPathOk.T6.2 spec_FlyPathOk.B6 = true := by kernel_rfl
set_option maxHeartbeats 8000000 in
set_option maxRecDepth 100000 in
theorem spec_FlyPathOk.calls (k : Nat) (a0_0 : Int) (a0_1 : Int) (A0_2 : Option Addr) (c0_2 : Nat) (l0_2 : List (S88)) (a0_3 : Int) (a0_4 : Int) (r : Bool) (w : World) (hr0_2 : Kd.C k88 w A0_2 l0_2.length l0_2) (hc0_2 : l0_2.length ≤ c0_2) (h : spec_FlyPathOk.f k a0_0 a0_1 l0_2 a0_3 a0_4 = some r) :
 Calls Try.prog 32 #[.agg #[.int .i64 a0_0, .int .i64 a0_1, .slice A0_2 l0_2.length c0_2, .int .i64 a0_3, .int .i64 a0_4]] w fun e w' => e = .returned (.bool r) ∧ Below w.heap.size w w' := by
 have hu34 := Try.underlying34
 have hu31 := Try.underlying31
 have hu88 := Try.underlying88
 have HR0_2 := Aside0.mk hr0_2
 have HC0_2 := Aside0.mk hc0_2
 clear hr0_2 hc0_2
 have HB := Aside0.mk (Below.refl w.heap.size w)
 have H : ((spec_FlyKindOk.f a0_0 a0_1).bind fun t166 => (if t166 = true then ((spec_l21In.f (l0_2.length : Int) 1 40).bind fun t167 => (if t167 = true then ((spec_l21In.f a0_3 0 a0_4).bind fun t168 => (if t168 = true then (spec_FlyPathOk.j0 k (decide (a0_4 > 10000)) a0_0 a0_1 l0_2 a0_3 a0_4) else (spec_FlyPathOk.j0 k true a0_0 a0_1 l0_2 a0_3 a0_4))) else (spec_FlyPathOk.j0 k true a0_0 a0_1 l0_2 a0_3 a0_4))) else (spec_FlyPathOk.j0 k true a0_0 a0_1 l0_2 a0_3 a0_4))) = some r := h
 clear h
 have HC2 := Aside0.mk H
 clear H
 go_enter Try.func32, Try.ntmps32
 go_upto_region 1 with (first | ((with_reducible refine gate_dst (N := 1) rfl ?_); (try (refine gate_guard (by rfl) ?_; dsimp only)); refine box_event (by rfl) (N := 1) (by rfl) (cs := #[.int .i64 a0_0, .int .i64 a0_1, .slice A0_2 l0_2.length c0_2, .int .i64 a0_3, .int .i64 a0_4]) (t := 34) zg ?_; intro gb165 hg w3 hbox hb; have n0_ := Aside0.mk (below_step (zs0 HB) hb); have n1_ := Aside0.mk (hbox); have n2_ := Aside0.mk ((by rw [hg]; exact (below_size (zs0 HB)) : w.heap.size ≤ gb165)); have n3_ := Aside0.mk ((by rw [hg]; exact (below_size (zs0 HB)) : w.heap.size ≤ gb165)); clear HB; have HB := n0_; have BK165 := n1_; have GW165 := n2_; have GE165 := n3_; clear n0_ n1_ n2_ n3_; clear hb hbox hg))
 (try simp only [Act.put, List.setIfInBounds_toArray, List.set_cons_zero, List.set_cons_succ])
 go_cut [27] (fun v27 wc => ∃ (kq : Nat) (x27_1 : Bool), v27 = .bool x27_1 ∧ Aside0 (spec_FlyPathOk.j0 kq x27_1 a0_0 a0_1 l0_2 a0_3 a0_4 = some r) ∧ Aside0 (kq ≤ k) ∧ Aside0 (wc.heap[gb165]? = some (.cells #[.int .i64 a0_0, .int .i64 a0_1, (.slice A0_2 l0_2.length c0_2), .int .i64 a0_3, .int .i64 a0_4] 34 (0, 0))) ∧ Aside0 (Below w.heap.size w wc))
 case first =>
  have H := HC2.out
  clear HC2
  replace H := Option.bind_eq_some_iff.mp H
  obtain ⟨t166, A40, H⟩ := H
  replace H : (if t166 = true then ((spec_l21In.f (l0_2.length : Int) 1 40).bind fun t167 => (if t167 = true then ((spec_l21In.f a0_3 0 a0_4).bind fun t168 => (if t168 = true then (spec_FlyPathOk.j0 k (decide (a0_4 > 10000)) a0_0 a0_1 l0_2 a0_3 a0_4) else (spec_FlyPathOk.j0 k true a0_0 a0_1 l0_2 a0_3 a0_4))) else (spec_FlyPathOk.j0 k true a0_0 a0_1 l0_2 a0_3 a0_4))) else (spec_FlyPathOk.j0 k true a0_0 a0_1 l0_2 a0_3 a0_4)) = some r := H
  have A4 := Aside0.mk A40
  clear A40
  by_cases c5 : t166 = true
  rotate_left
  ·replace c5 := Bool.eq_false_iff.mpr c5
   subst c5
   have H1 : (spec_FlyPathOk.j0 k true a0_0 a0_1 l0_2 a0_3 a0_4) = some r := by rw [if_neg (show ¬ (false = true) by decide)] at H; exact H
   clear H
   have H := H1
   clear H1
   have H' := Aside0.mk H
   clear H
   obtain ⟨hcz19_0, hcz19_1, hcz19_2, hcz19_3, hcz19_4⟩ := zd5 BK165
   obtain ⟨hfz19_0, hfz19_1, hfz19_2, hfz19_3, hfz19_4⟩ := zn5 BK165
   go_wp2_with (first | ((with_reducible refine gate_callee (f := 74) rfl ?_); refine goesL_ (some 6) rfl rfl Try.func74 (by kernel_rfl) rfl #[.agg #[.int .i64 a0_0, .int .i64 a0_1]] rfl zl ?_; (with_reducible refine (spec_FlyKindOk.calls a0_0 a0_1 false _ A4.out).mono ?_); rintro e w20 ⟨rfl, hb⟩; refine ⟨_, rfl, ?_⟩; have n0_ := zb BK165 hb; have n1_ := Aside0.mk (below_step (zs1 HB GE165) hb); clear BK165 HB; revert n0_ n1_; intro BK165 HB; (try clear hb); (try clear hb2); (try clear hk); (try clear hi)))
   go_meet
   case rel => exact ⟨_, (true), zi, H', ⟨by first | omega | exact Nat.le_refl _⟩, ⟨zh BK165⟩, ⟨zs1 HB GE165⟩⟩
  subst c5
  have H1 : ((spec_l21In.f (l0_2.length : Int) 1 40).bind fun t167 => (if t167 = true then ((spec_l21In.f a0_3 0 a0_4).bind fun t168 => (if t168 = true then (spec_FlyPathOk.j0 k (decide (a0_4 > 10000)) a0_0 a0_1 l0_2 a0_3 a0_4) else (spec_FlyPathOk.j0 k true a0_0 a0_1 l0_2 a0_3 a0_4))) else (spec_FlyPathOk.j0 k true a0_0 a0_1 l0_2 a0_3 a0_4))) = some r := by rw [if_pos rfl] at H; exact H
  clear H
  have H := H1
  clear H1
  replace H := Option.bind_eq_some_iff.mp H
  obtain ⟨t167, A60, H⟩ := H
  replace H : (if t167 = true then ((spec_l21In.f a0_3 0 a0_4).bind fun t168 => (if t168 = true then (spec_FlyPathOk.j0 k (decide (a0_4 > 10000)) a0_0 a0_1 l0_2 a0_3 a0_4) else (spec_FlyPathOk.j0 k true a0_0 a0_1 l0_2 a0_3 a0_4))) else (spec_FlyPathOk.j0 k true a0_0 a0_1 l0_2 a0_3 a0_4)) = some r := H
  have A6 := Aside0.mk A60
  clear A60
  by_cases c7 : t167 = true
  rotate_left
  ·replace c7 := Bool.eq_false_iff.mpr c7
   subst c7
   have H1 : (spec_FlyPathOk.j0 k true a0_0 a0_1 l0_2 a0_3 a0_4) = some r := by rw [if_neg (show ¬ (false = true) by decide)] at H; exact H
   clear H
   have H := H1
   clear H1
   have H' := Aside0.mk H
   clear H
   obtain ⟨hcz16_0, hcz16_1, hcz16_2, hcz16_3, hcz16_4⟩ := zd5 BK165
   obtain ⟨hfz16_0, hfz16_1, hfz16_2, hfz16_3, hfz16_4⟩ := zn5 BK165
   go_wp2_with (first | ((with_reducible refine gate_callee (f := 74) rfl ?_); refine goesL_ (some 6) rfl rfl Try.func74 (by kernel_rfl) rfl #[.agg #[.int .i64 a0_0, .int .i64 a0_1]] rfl zl ?_; (with_reducible refine (spec_FlyKindOk.calls a0_0 a0_1 true _ A4.out).mono ?_); rintro e w17 ⟨rfl, hb⟩; refine ⟨_, rfl, ?_⟩; have n0_ := zb BK165 hb; have n1_ := Aside0.mk (below_step (zs1 HB GE165) hb); clear BK165 HB; revert n0_ n1_; intro BK165 HB; (try clear hb); (try clear hb2); (try clear hk); (try clear hi); obtain ⟨hcz18_0, hcz18_1, hcz18_2, hcz18_3, hcz18_4⟩ := zd5 BK165; obtain ⟨hfz18_0, hfz18_1, hfz18_2, hfz18_3, hfz18_4⟩ := zn5 BK165) | (go_at_call 70; (with_reducible refine (spec_l21In.calls (l0_2.length : Int) 1 40 false _ A6.out).mono ?_); rintro e w' ⟨rfl, ⟨nd, rfl⟩⟩))
   go_meet
   case rel => exact ⟨_, (true), zi, H', ⟨by first | omega | exact Nat.le_refl _⟩, ⟨zh BK165⟩, ⟨zs1 HB GE165⟩⟩
  subst c7
  have H1 : ((spec_l21In.f a0_3 0 a0_4).bind fun t168 => (if t168 = true then (spec_FlyPathOk.j0 k (decide (a0_4 > 10000)) a0_0 a0_1 l0_2 a0_3 a0_4) else (spec_FlyPathOk.j0 k true a0_0 a0_1 l0_2 a0_3 a0_4))) = some r := by rw [if_pos rfl] at H; exact H
  clear H
  have H := H1
  clear H1
  replace H := Option.bind_eq_some_iff.mp H
  obtain ⟨t168, A80, H⟩ := H
  replace H : (if t168 = true then (spec_FlyPathOk.j0 k (decide (a0_4 > 10000)) a0_0 a0_1 l0_2 a0_3 a0_4) else (spec_FlyPathOk.j0 k true a0_0 a0_1 l0_2 a0_3 a0_4)) = some r := H
  have A8 := Aside0.mk A80
  clear A80
  by_cases c9 : t168 = true
  ·subst c9
   have H1 : (spec_FlyPathOk.j0 k (decide (a0_4 > 10000)) a0_0 a0_1 l0_2 a0_3 a0_4) = some r := by rw [if_pos rfl] at H; exact H
   clear H
   have H := H1
   clear H1
   have H' := Aside0.mk H
   clear H
   obtain ⟨hcz10_0, hcz10_1, hcz10_2, hcz10_3, hcz10_4⟩ := zd5 BK165
   obtain ⟨hfz10_0, hfz10_1, hfz10_2, hfz10_3, hfz10_4⟩ := zn5 BK165
   go_wp2_with (first | ((with_reducible refine gate_callee (f := 74) rfl ?_); refine goesL_ (some 6) rfl rfl Try.func74 (by kernel_rfl) rfl #[.agg #[.int .i64 a0_0, .int .i64 a0_1]] rfl zl ?_; (with_reducible refine (spec_FlyKindOk.calls a0_0 a0_1 true _ A4.out).mono ?_); rintro e w11 ⟨rfl, hb⟩; refine ⟨_, rfl, ?_⟩; have n0_ := zb BK165 hb; have n1_ := Aside0.mk (below_step (zs1 HB GE165) hb); clear BK165 HB; revert n0_ n1_; intro BK165 HB; (try clear hb); (try clear hb2); (try clear hk); (try clear hi); obtain ⟨hcz12_0, hcz12_1, hcz12_2, hcz12_3, hcz12_4⟩ := zd5 BK165; obtain ⟨hfz12_0, hfz12_1, hfz12_2, hfz12_3, hfz12_4⟩ := zn5 BK165) | (go_at_call 70; (with_reducible refine (spec_l21In.calls (l0_2.length : Int) 1 40 true _ A6.out).mono ?_); rintro e w' ⟨rfl, ⟨nd, rfl⟩⟩) | (go_at_call 70; (with_reducible refine (spec_l21In.calls a0_3 0 a0_4 true _ A8.out).mono ?_); rintro e w' ⟨rfl, ⟨nd, rfl⟩⟩))
   go_meet
   case rel => exact ⟨_, (decide (a0_4 > 10000)), zi, H', ⟨by first | omega | exact Nat.le_refl _⟩, ⟨zh BK165⟩, ⟨zs1 HB GE165⟩⟩
  replace c9 := Bool.eq_false_iff.mpr c9
  subst c9
  have H1 : (spec_FlyPathOk.j0 k true a0_0 a0_1 l0_2 a0_3 a0_4) = some r := by rw [if_neg (show ¬ (false = true) by decide)] at H; exact H
  clear H
  have H := H1
  clear H1
  have H' := Aside0.mk H
  clear H
  obtain ⟨hcz13_0, hcz13_1, hcz13_2, hcz13_3, hcz13_4⟩ := zd5 BK165
  obtain ⟨hfz13_0, hfz13_1, hfz13_2, hfz13_3, hfz13_4⟩ := zn5 BK165
  go_wp2_with (first | ((with_reducible refine gate_callee (f := 74) rfl ?_); refine goesL_ (some 6) rfl rfl Try.func74 (by kernel_rfl) rfl #[.agg #[.int .i64 a0_0, .int .i64 a0_1]] rfl zl ?_; (with_reducible refine (spec_FlyKindOk.calls a0_0 a0_1 true _ A4.out).mono ?_); rintro e w14 ⟨rfl, hb⟩; refine ⟨_, rfl, ?_⟩; have n0_ := zb BK165 hb; have n1_ := Aside0.mk (below_step (zs1 HB GE165) hb); clear BK165 HB; revert n0_ n1_; intro BK165 HB; (try clear hb); (try clear hb2); (try clear hk); (try clear hi); obtain ⟨hcz15_0, hcz15_1, hcz15_2, hcz15_3, hcz15_4⟩ := zd5 BK165; obtain ⟨hfz15_0, hfz15_1, hfz15_2, hfz15_3, hfz15_4⟩ := zn5 BK165) | (go_at_call 70; (with_reducible refine (spec_l21In.calls (l0_2.length : Int) 1 40 true _ A6.out).mono ?_); rintro e w' ⟨rfl, ⟨nd, rfl⟩⟩) | (go_at_call 70; (with_reducible refine (spec_l21In.calls a0_3 0 a0_4 false _ A8.out).mono ?_); rintro e w' ⟨rfl, ⟨nd, rfl⟩⟩))
  go_meet
  case rel => exact ⟨_, (true), zi, H', ⟨by first | omega | exact Nat.le_refl _⟩, ⟨zh BK165⟩, ⟨zs1 HB GE165⟩⟩
 case rest =>
  clear HC2
  try clear p2
  try clear c3
  try clear c5
  try clear c7
  try clear c9
  try clear hcz10_0
  try clear hcz10_1
  try clear hcz10_2
  try clear hcz10_3
  try clear hcz10_4
  try clear hcz12_0
  try clear hcz12_1
  try clear hcz12_2
  try clear hcz12_3
  try clear hcz12_4
  try clear hcz13_0
  try clear hcz13_1
  try clear hcz13_2
  try clear hcz13_3
  try clear hcz13_4
  try clear hcz15_0
  try clear hcz15_1
  try clear hcz15_2
  try clear hcz15_3
  try clear hcz15_4
  try clear hcz16_0
  try clear hcz16_1
  try clear hcz16_2
  try clear hcz16_3
  try clear hcz16_4
  try clear hcz18_0
  try clear hcz18_1
  try clear hcz18_2
  try clear hcz18_3
  try clear hcz18_4
  try clear hcz19_0
  try clear hcz19_1
  try clear hcz19_2
  try clear hcz19_3
  try clear hcz19_4
  try clear hfz10_0
  try clear hfz10_1
  try clear hfz10_2
  try clear hfz10_3
  try clear hfz10_4
  try clear hfz12_0
  try clear hfz12_1
  try clear hfz12_2
  try clear hfz12_3
  try clear hfz12_4
  try clear hfz13_0
  try clear hfz13_1
  try clear hfz13_2
  try clear hfz13_3
  try clear hfz13_4
  try clear hfz15_0
  try clear hfz15_1
  try clear hfz15_2
  try clear hfz15_3
  try clear hfz15_4
  try clear hfz16_0
  try clear hfz16_1
  try clear hfz16_2
  try clear hfz16_3
  try clear hfz16_4
  try clear hfz18_0
  try clear hfz18_1
  try clear hfz18_2
  try clear hfz18_3
  try clear hfz18_4
  try clear hfz19_0
  try clear hfz19_1
  try clear hfz19_2
  try clear hfz19_3
  try clear hfz19_4
  obtain ⟨kq, x27_1, rfl, HA, HJ1, BK165, HB⟩ := hcut
  cases kq with
  | zero => exact absurd HA.out (by simp [spec_FlyPathOk.j0])
  | succ kj1 =>
   have H := HA.out
   clear HA
   simp only [spec_FlyPathOk.j0] at H
   by_cases c21 : x27_1 = true
   ·subst c21
    have H1 : (some false) = some r := by rw [if_pos rfl] at H; exact H
    clear H
    have H := H1
    clear H1
    obtain rfl := Option.some.inj H
    go_wp2
    go_ret
    exact ⟨ze, zs1 HB GE165⟩
   replace c21 := Bool.eq_false_iff.mpr c21
   subst c21
   have H1 : (spec_FlyPathOk.l0 kj1 0 a0_0 a0_1 l0_2 a0_3 a0_4) = some r := by rw [if_neg (show ¬ (false = true) by decide)] at H; exact H
   clear H
   have H := H1
   clear H1
   have H' := Aside0.mk H
   clear H
   go_wp2
   go_loopg [3] kj1 (fun kq v3 w' => ∃ (x3_2 : Int), v3 = .int .i64 x3_2 ∧ Aside0 (spec_FlyPathOk.l0 kq x3_2 a0_0 a0_1 l0_2 a0_3 a0_4 = some r) ∧ Aside0 (kq ≤ kj1) ∧ Aside0 (w'.heap[gb165]? = some (.cells #[.int .i64 a0_0, .int .i64 a0_1, (.slice A0_2 l0_2.length c0_2), .int .i64 a0_3, .int .i64 a0_4] 34 (0, 0))) ∧ Aside0 (Below w.heap.size w w'))
   case atStart => exact ⟨(0), zi, H', ⟨Nat.le_refl _⟩, ⟨zh BK165⟩, ⟨zs1 HB GE165⟩⟩
   case round =>
    clear H'
    try clear c2
    try clear p2
    try clear c3
    try clear c5
    try clear c7
    try clear c9
    try clear c21
    try clear hcz10_0
    try clear hcz10_1
    try clear hcz10_2
    try clear hcz10_3
    try clear hcz10_4
    try clear hcz12_0
    try clear hcz12_1
    try clear hcz12_2
    try clear hcz12_3
    try clear hcz12_4
    try clear hcz13_0
    try clear hcz13_1
    try clear hcz13_2
    try clear hcz13_3
    try clear hcz13_4
    try clear hcz15_0
    try clear hcz15_1
    try clear hcz15_2
    try clear hcz15_3
    try clear hcz15_4
    try clear hcz16_0
    try clear hcz16_1
    try clear hcz16_2
    try clear hcz16_3
    try clear hcz16_4
    try clear hcz18_0
    try clear hcz18_1
    try clear hcz18_2
    try clear hcz18_3
    try clear hcz18_4
    try clear hcz19_0
    try clear hcz19_1
    try clear hcz19_2
    try clear hcz19_3
    try clear hcz19_4
    try clear hfz10_0
    try clear hfz10_1
    try clear hfz10_2
    try clear hfz10_3
    try clear hfz10_4
    try clear hfz12_0
    try clear hfz12_1
    try clear hfz12_2
    try clear hfz12_3
    try clear hfz12_4
    try clear hfz13_0
    try clear hfz13_1
    try clear hfz13_2
    try clear hfz13_3
    try clear hfz13_4
    try clear hfz15_0
    try clear hfz15_1
    try clear hfz15_2
    try clear hfz15_3
    try clear hfz15_4
    try clear hfz16_0
    try clear hfz16_1
    try clear hfz16_2
    try clear hfz16_3
    try clear hfz16_4
    try clear hfz18_0
    try clear hfz18_1
    try clear hfz18_2
    try clear hfz18_3
    try clear hfz18_4
    try clear hfz19_0
    try clear hfz19_1
    try clear hfz19_2
    try clear hfz19_3
    try clear hfz19_4
    try clear p2
    obtain ⟨x3_2, rfl, HA, HK2, BK165, HB⟩ := hrel
    cases gk with
    | zero => exact absurd HA.out (by simp [spec_FlyPathOk.l0])
    | succ k2 =>
     have H := HA.out
     clear HA
     simp only [spec_FlyPathOk.l0] at H
     by_cases c22 : x3_2 < (l0_2.length : Int)
     rotate_left
     ·rw [if_neg c22] at H
      have c22b0 : decide (x3_2 < (l0_2.length : Int)) = false := decide_eq_false c22
      clear c22
      obtain rfl := Option.some.inj H
      obtain ⟨hcz46_0, hcz46_1, hcz46_2, hcz46_3, hcz46_4⟩ := zd5 BK165
      obtain ⟨hfz46_0, hfz46_1, hfz46_2, hfz46_3, hfz46_4⟩ := zn5 BK165
      go_wp2
      go_ret
      exact ⟨ze, zs1 HB GE165⟩
     rw [if_pos c22] at H
     have c22b0 : decide (x3_2 < (l0_2.length : Int)) = true := decide_eq_true c22
     clear c22
     by_cases c23 : 0 ≤ x3_2
     rotate_left
     ·rw [if_neg c23] at H
      exact absurd H (by simp)
     rw [if_pos c23] at H
     have c23b0 : decide (0 ≤ x3_2) = true := decide_eq_true c23
     clear c23
     replace H := Option.bind_eq_some_iff.mp H
     obtain ⟨t170, A240, H⟩ := H
     replace H : (if t170 = true then (if x3_2 > 0 then (if 0 ≤ (wrap64 (x3_2 - 1)) then (if (wrap64 (x3_2 - 1)) < (l0_2.length : Int) then ((spec_l22Next.f ((rd_T88 l0_2 (wrap64 (x3_2 - 1))).f0) ((rd_T88 l0_2 (wrap64 (x3_2 - 1))).f1) ((rd_T88 l0_2 (wrap64 (x3_2 - 1))).f2) ((rd_T88 l0_2 (wrap64 (x3_2 - 1))).f3) ((rd_T88 l0_2 (wrap64 (x3_2 - 1))).f4) ((rd_T88 l0_2 (wrap64 (x3_2 - 1))).f5) ((rd_T88 l0_2 (wrap64 (x3_2 - 1))).f6) ((rd_T88 l0_2 x3_2).f0) ((rd_T88 l0_2 x3_2).f1) ((rd_T88 l0_2 x3_2).f2) ((rd_T88 l0_2 x3_2).f3) ((rd_T88 l0_2 x3_2).f4) ((rd_T88 l0_2 x3_2).f5) ((rd_T88 l0_2 x3_2).f6)).bind fun t173 => (if t173 = true then (spec_FlyPathOk.l0 k2 (wrap64 (x3_2 + 1)) a0_0 a0_1 l0_2 a0_3 a0_4) else (some false))) else (none)) else (none)) else (spec_FlyPathOk.l0 k2 (wrap64 (x3_2 + 1)) a0_0 a0_1 l0_2 a0_3 a0_4)) else (some false)) = some r := H
     have A24 := Aside0.mk A240
     clear A240
     by_cases c25 : t170 = true
     rotate_left
     ·replace c25 := Bool.eq_false_iff.mpr c25
      subst c25
      have H1 : (some false) = some r := by rw [if_neg (show ¬ (false = true) by decide)] at H; exact H
      clear H
      have H := H1
      clear H1
      obtain rfl := Option.some.inj H
      obtain ⟨hcz43_0, hcz43_1, hcz43_2, hcz43_3, hcz43_4⟩ := zd5 BK165
      obtain ⟨hfz43_0, hfz43_1, hfz43_2, hfz43_3, hfz43_4⟩ := zn5 BK165
      try go_wp2
      have n0_ := Aside0.mk (blk_drew BK165.out)
      have n1_ := Aside0.mk (below_drew1 HB.out)
      clear BK165 HB
      revert n0_ n1_
      intro BK165 HB
      have p169 : 0 ≤ (x3_2 : Int) := za
      have q169 : x3_2 < (l0_2.length : Int) := za
      obtain ⟨ad169, e169, hx169_0, hx169_1, hx169_2, hx169_3, hx169_4, hx169_5, hx169_6⟩ := at_T88 HR0_2.out x3_2 p169 q169
      have hw169_6 := hx169_6
      have hw169_5 := hx169_5
      have hw169_4 := hx169_4
      have hw169_3 := hx169_3
      have hw169_2 := hx169_2
      have hw169_1 := hx169_1
      have hw169_0 := hx169_0
      cases e169
      replace hx169_0 := zx HB hx169_0
      replace hx169_1 := zx HB hx169_1
      replace hx169_2 := zx HB hx169_2
      replace hx169_3 := zx HB hx169_3
      replace hx169_4 := zx HB hx169_4
      replace hx169_5 := zx HB hx169_5
      replace hx169_6 := zx HB hx169_6
      replace p169 := eq_true p169
      replace q169 := eq_true q169
      refine start_ (n := 26) (S := fun w' => w'.cell? ⟨gb165, 0, none⟩ = some (.int .i64 a0_0) ∧ w'.cell? ⟨gb165, 1, none⟩ = some (.int .i64 a0_1) ∧ w'.cell? ⟨gb165, 2, none⟩ = some (.slice (some ad169) l0_2.length c0_2) ∧ w'.cell? ⟨gb165, 3, none⟩ = some (.int .i64 a0_3) ∧ w'.cell? ⟨gb165, 4, none⟩ = some (.int .i64 a0_4) ∧ w'.cell? (ad169.add ((x3_2).toNat * 7)) = some (.int .i64 ((rd_T88 l0_2 x3_2).f0)) ∧ w'.cell? ⟨(ad169.add ((x3_2).toNat * 7)).block, (ad169.add ((x3_2).toNat * 7)).off + 1, none⟩ = some (.int .i64 ((rd_T88 l0_2 x3_2).f1)) ∧ w'.cell? ⟨(ad169.add ((x3_2).toNat * 7)).block, (ad169.add ((x3_2).toNat * 7)).off + 2, none⟩ = some (.int .i64 ((rd_T88 l0_2 x3_2).f2)) ∧ w'.cell? ⟨(ad169.add ((x3_2).toNat * 7)).block, (ad169.add ((x3_2).toNat * 7)).off + 3, none⟩ = some (.int .i64 ((rd_T88 l0_2 x3_2).f3)) ∧ w'.cell? ⟨(ad169.add ((x3_2).toNat * 7)).block, (ad169.add ((x3_2).toNat * 7)).off + 4, none⟩ = some (.int .i64 ((rd_T88 l0_2 x3_2).f4)) ∧ w'.cell? ⟨(ad169.add ((x3_2).toNat * 7)).block, (ad169.add ((x3_2).toNat * 7)).off + 5, none⟩ = some (.int .i64 ((rd_T88 l0_2 x3_2).f5)) ∧ w'.cell? ⟨(ad169.add ((x3_2).toNat * 7)).block, (ad169.add ((x3_2).toNat * 7)).off + 6, none⟩ = some (.bool ((rd_T88 l0_2 x3_2).f6))) (ds := []) #[false, false, false, false, false, false, false, false, false, false, false, false, false, false, false, false, false, false, false, false, false, false, false, false, false, false] (by kernel_rfl) rfl rfl ⟨(blk_cell BK165.out 0).trans rfl, (blk_cell BK165.out 1).trans rfl, (blk_cell BK165.out 2).trans rfl, (blk_cell BK165.out 3).trans rfl, (blk_cell BK165.out 4).trans rfl, (zw HB hw169_0), (zw HB hw169_1), (zw HB hw169_2), (zw HB hw169_3), (zw HB hw169_4), (zw HB hw169_5), (zw HB hw169_6)⟩ (fun hHeld => ?_); refine with_tabW spec_FlyPathOk.tab6 spec_FlyPathOk.bits6 (fun HT_ HW_ => ?_)
      generalize wr.drew = w44 at BK165 HB hx169_0 hx169_1 hx169_2 hx169_3 hx169_4 hx169_5 hx169_6 hHeld ⊢
      refine pure_ (i := 0) (N := some 35) (v := ?_) (a' := ?_) #[true, false, false, false, false, false, false, false, false, false, false, false, false, false, false, false, false, false, false, false, false, false, false, false, false, false] rfl rfl (any_of HT_.out (by kernel_rfl)) (fun _ _ _ h => h) (Or.inl ⟨by rfl, ?_⟩) ?_ ?_; rotate_left; exact zy; rotate_left; exact zput
      refine pure_ (i := 2) (N := some 37) (v := ?_) (a' := ?_) #[true, false, true, false, false, false, false, false, false, false, false, false, false, false, false, false, false, false, false, false, false, false, false, false, false, false] rfl rfl (any_of HT_.out (by kernel_rfl)) (fun _ _ _ h => h) (Or.inl ⟨by rfl, ?_⟩) ?_ ?_; rotate_left; exact zy; rotate_left; exact zput
      refine take_ (i := 1) (N := some 36) (v := ?_) (a' := ?_) #[true, true, true, false, false, false, false, false, false, false, false, false, false, false, false, false, false, false, false, false, false, false, false, false, false, false] rfl rfl (take_ofW HT_.out HW_.out (by kernel_rfl)) (fun _ _ _ h => h) (Or.inl ⟨by rfl, ?_⟩) hHeld ?_ ?_; rotate_left; exact zt12; rotate_left; exact zput
      refine pure_ (i := 3) (N := some 38) (v := ?_) (a' := ?_) #[true, true, true, true, false, false, false, false, false, false, false, false, false, false, false, false, false, false, false, false, false, false, false, false, false, false] rfl rfl (any_of HT_.out (by kernel_rfl)) (fun _ _ _ h => h) (Or.inl ⟨by rfl, ?_⟩) ?_ ?_; rotate_left; exact zy; rotate_left; exact zput
      refine take_ (i := 4) (N := some 39) (v := ?_) (a' := ?_) #[true, true, true, true, true, false, false, false, false, false, false, false, false, false, false, false, false, false, false, false, false, false, false, false, false, false] rfl rfl (take_ofW HT_.out HW_.out (by kernel_rfl)) (fun _ _ _ h => h) (Or.inl ⟨by rfl, ?_⟩) hHeld ?_ ?_; rotate_left; exact zt12; rotate_left; exact zput
      refine one_ (i := 5) (N := some 40) #[true, true, true, true, true, true, false, false, false, false, false, false, false, false, false, false, false, false, false, false, false, false, false, false, false, false] rfl rfl (one_of HT_.out (by kernel_rfl)) (by decide) (fun K hK => ?_)
      refine goes_ Try.func75 (by kernel_rfl) rfl #[.agg #[.int .i64 ((rd_T88 l0_2 x3_2).f0), .int .i64 ((rd_T88 l0_2 x3_2).f1), .int .i64 ((rd_T88 l0_2 x3_2).f2), .int .i64 ((rd_T88 l0_2 x3_2).f3), .int .i64 ((rd_T88 l0_2 x3_2).f4), .int .i64 ((rd_T88 l0_2 x3_2).f5), .bool ((rd_T88 l0_2 x3_2).f6)]] (by rfl) rfl rfl zl ?_
      with_reducible refine (spec_l22StepOk.calls ((rd_T88 l0_2 x3_2).f0) ((rd_T88 l0_2 x3_2).f1) ((rd_T88 l0_2 x3_2).f2) ((rd_T88 l0_2 x3_2).f3) ((rd_T88 l0_2 x3_2).f4) ((rd_T88 l0_2 x3_2).f5) ((rd_T88 l0_2 x3_2).f6) false _ A24.out).mono ?_
      rintro e w45 ⟨rfl, hb⟩
      refine ⟨_, rfl, ?_⟩
      have n0_ := zb BK165 hb
      have n1_ := Aside0.mk (below_step (zs1 HB GE165) hb)
      clear BK165 HB
      revert n0_ n1_
      intro BK165 HB
      (try clear hb)
      (try clear hb2)
      (try clear hk)
      (try clear hi)
      refine hK.out _ _ ⟨(blk_cell BK165.out 0).trans rfl, (blk_cell BK165.out 1).trans rfl, (blk_cell BK165.out 2).trans rfl, (blk_cell BK165.out 3).trans rfl, (blk_cell BK165.out 4).trans rfl, (zw HB hw169_0), (zw HB hw169_1), (zw HB hw169_2), (zw HB hw169_3), (zw HB hw169_4), (zw HB hw169_5), (zw HB hw169_6)⟩ (fun hHeld => ?_)
      clear hK K
      refine norm_ (a' := ?_) ?_ ?_
      rotate_left
      ·show Act.put _ (some 40) _ = _
       simp only [Act.put, List.setIfInBounds_toArray, List.set_cons_zero, List.set_cons_succ, i64_w, i32_w]
       rfl
      refine pure_ (i := 6) (N := some 41) (v := ?_) (a' := ?_) #[true, true, true, true, true, true, true, false, false, false, false, false, false, false, false, false, false, false, false, false, false, false, false, false, false, false] rfl rfl (any_of HT_.out (by kernel_rfl)) (fun _ _ _ h => h) (Or.inl ⟨by rfl, ?_⟩) ?_ ?_; rotate_left; exact zy; rotate_left; exact zput
      refine pure_ (i := 7) (N := some 42) (v := ?_) (a' := ?_) #[true, true, true, true, true, true, true, true, false, false, false, false, false, false, false, false, false, false, false, false, false, false, false, false, false, false] rfl rfl (any_of HT_.out (by kernel_rfl)) (fun _ _ _ h => h) (Or.inl ⟨by rfl, ?_⟩) ?_ ?_; rotate_left; exact zy; rotate_left; exact zput
      refine pure_ (i := 8) (N := some 43) (v := undef) (a' := ?_) #[true, true, true, true, true, true, true, true, true, false, false, false, false, false, false, false, false, false, false, false, false, false, false, false, false, false] rfl rfl (any_of HT_.out (by kernel_rfl)) (fun _ _ _ h => h) (Or.inr ⟨by rfl, rfl⟩) ?_ ?_; rotate_left; exact zput
      refine pure_ (i := 9) (N := some 44) (v := undef) (a' := ?_) #[true, true, true, true, true, true, true, true, true, true, false, false, false, false, false, false, false, false, false, false, false, false, false, false, false, false] rfl rfl (any_of HT_.out (by kernel_rfl)) (fun _ _ _ h => h) (Or.inr ⟨by rfl, rfl⟩) ?_ ?_; rotate_left; exact zput
      refine pure_ (i := 10) (N := some 45) (v := undef) (a' := ?_) #[true, true, true, true, true, true, true, true, true, true, true, false, false, false, false, false, false, false, false, false, false, false, false, false, false, false] rfl rfl (any_of HT_.out (by kernel_rfl)) (fun _ _ _ h => h) (Or.inr ⟨by rfl, rfl⟩) ?_ ?_; rotate_left; exact zput
      refine pure_ (i := 11) (N := some 46) (v := undef) (a' := ?_) #[true, true, true, true, true, true, true, true, true, true, true, true, false, false, false, false, false, false, false, false, false, false, false, false, false, false] rfl rfl (any_of HT_.out (by kernel_rfl)) (fun _ _ _ h => h) (Or.inr ⟨by rfl, rfl⟩) ?_ ?_; rotate_left; exact zput
      refine pure_ (i := 12) (N := some 47) (v := undef) (a' := ?_) #[true, true, true, true, true, true, true, true, true, true, true, true, true, false, false, false, false, false, false, false, false, false, false, false, false, false] rfl rfl (any_of HT_.out (by kernel_rfl)) (fun _ _ _ h => h) (Or.inr ⟨by rfl, rfl⟩) ?_ ?_; rotate_left; exact zput
      refine pure_ (i := 13) (N := some 48) (v := undef) (a' := ?_) #[true, true, true, true, true, true, true, true, true, true, true, true, true, true, false, false, false, false, false, false, false, false, false, false, false, false] rfl rfl (any_of HT_.out (by kernel_rfl)) (fun _ _ _ h => h) (Or.inr ⟨by rfl, rfl⟩) ?_ ?_; rotate_left; exact zput
      refine pure_ (i := 14) (N := some 49) (v := undef) (a' := ?_) #[true, true, true, true, true, true, true, true, true, true, true, true, true, true, true, false, false, false, false, false, false, false, false, false, false, false] rfl rfl (any_of HT_.out (by kernel_rfl)) (fun _ _ _ h => h) (Or.inr ⟨by rfl, rfl⟩) ?_ ?_; rotate_left; exact zput
      refine pure_ (i := 15) (N := some 50) (v := undef) (a' := ?_) #[true, true, true, true, true, true, true, true, true, true, true, true, true, true, true, true, false, false, false, false, false, false, false, false, false, false] rfl rfl (any_of HT_.out (by kernel_rfl)) (fun _ _ _ h => h) (Or.inr ⟨by rfl, rfl⟩) ?_ ?_; rotate_left; exact zput
      refine pure_ (i := 16) (N := some 51) (v := undef) (a' := ?_) #[true, true, true, true, true, true, true, true, true, true, true, true, true, true, true, true, true, false, false, false, false, false, false, false, false, false] rfl rfl (any_of HT_.out (by kernel_rfl)) (fun _ _ _ h => h) (Or.inr ⟨by rfl, rfl⟩) ?_ ?_; rotate_left; exact zput
      refine pure_ (i := 17) (N := some 52) (v := undef) (a' := ?_) #[true, true, true, true, true, true, true, true, true, true, true, true, true, true, true, true, true, true, false, false, false, false, false, false, false, false] rfl rfl (any_of HT_.out (by kernel_rfl)) (fun _ _ _ h => h) (Or.inr ⟨by rfl, rfl⟩) ?_ ?_; rotate_left; exact zput
      refine pure_ (i := 18) (N := some 53) (v := undef) (a' := ?_) #[true, true, true, true, true, true, true, true, true, true, true, true, true, true, true, true, true, true, true, false, false, false, false, false, false, false] rfl rfl (any_of HT_.out (by kernel_rfl)) (fun _ _ _ h => h) (Or.inr ⟨by rfl, rfl⟩) ?_ ?_; rotate_left; exact zput
      refine pure_ (i := 19) (N := some 54) (v := undef) (a' := ?_) #[true, true, true, true, true, true, true, true, true, true, true, true, true, true, true, true, true, true, true, true, false, false, false, false, false, false] rfl rfl (any_of HT_.out (by kernel_rfl)) (fun _ _ _ h => h) (Or.inr ⟨by rfl, rfl⟩) ?_ ?_; rotate_left; exact zput
      refine pure_ (i := 20) (N := some 55) (v := undef) (a' := ?_) #[true, true, true, true, true, true, true, true, true, true, true, true, true, true, true, true, true, true, true, true, true, false, false, false, false, false] rfl rfl (any_of HT_.out (by kernel_rfl)) (fun _ _ _ h => h) (Or.inr ⟨by rfl, rfl⟩) ?_ ?_; rotate_left; exact zput
      refine pure_ (i := 21) (N := some 56) (v := undef) (a' := ?_) #[true, true, true, true, true, true, true, true, true, true, true, true, true, true, true, true, true, true, true, true, true, true, false, false, false, false] rfl rfl (any_of HT_.out (by kernel_rfl)) (fun _ _ _ h => h) (Or.inr ⟨by rfl, rfl⟩) ?_ ?_; rotate_left; exact zput
      refine pure_ (i := 22) (N := some 57) (v := undef) (a' := ?_) #[true, true, true, true, true, true, true, true, true, true, true, true, true, true, true, true, true, true, true, true, true, true, true, false, false, false] rfl rfl (any_of HT_.out (by kernel_rfl)) (fun _ _ _ h => h) (Or.inr ⟨by rfl, rfl⟩) ?_ ?_; rotate_left; exact zput
      refine pure_ (i := 23) (N := some 58) (v := undef) (a' := ?_) #[true, true, true, true, true, true, true, true, true, true, true, true, true, true, true, true, true, true, true, true, true, true, true, true, false, false] rfl rfl (any_of HT_.out (by kernel_rfl)) (fun _ _ _ h => h) (Or.inr ⟨by rfl, rfl⟩) ?_ ?_; rotate_left; exact zput
      refine pure_ (i := 24) (N := some 59) (v := undef) (a' := ?_) #[true, true, true, true, true, true, true, true, true, true, true, true, true, true, true, true, true, true, true, true, true, true, true, true, true, false] rfl rfl (any_of HT_.out (by kernel_rfl)) (fun _ _ _ h => h) (Or.inr ⟨by rfl, rfl⟩) ?_ ?_; rotate_left; exact zput
      refine pure_ (i := 25) (N := some 60) (v := ?_) (a' := ?_) #[true, true, true, true, true, true, true, true, true, true, true, true, true, true, true, true, true, true, true, true, true, true, true, true, true, true] rfl rfl (any_of HT_.out (by kernel_rfl)) (fun _ _ _ h => h) (Or.inl ⟨by rfl, ?_⟩) ?_ ?_; rotate_left; exact zy; rotate_left; exact zput
      refine done_ (done_of HT_.out (by kernel_rfl)) ?_
      try go_wp2
      go_ret
      exact ⟨ze, zs1 HB GE165⟩
     subst c25
     have H1 : (if x3_2 > 0 then (if 0 ≤ (wrap64 (x3_2 - 1)) then (if (wrap64 (x3_2 - 1)) < (l0_2.length : Int) then ((spec_l22Next.f ((rd_T88 l0_2 (wrap64 (x3_2 - 1))).f0) ((rd_T88 l0_2 (wrap64 (x3_2 - 1))).f1) ((rd_T88 l0_2 (wrap64 (x3_2 - 1))).f2) ((rd_T88 l0_2 (wrap64 (x3_2 - 1))).f3) ((rd_T88 l0_2 (wrap64 (x3_2 - 1))).f4) ((rd_T88 l0_2 (wrap64 (x3_2 - 1))).f5) ((rd_T88 l0_2 (wrap64 (x3_2 - 1))).f6) ((rd_T88 l0_2 x3_2).f0) ((rd_T88 l0_2 x3_2).f1) ((rd_T88 l0_2 x3_2).f2) ((rd_T88 l0_2 x3_2).f3) ((rd_T88 l0_2 x3_2).f4) ((rd_T88 l0_2 x3_2).f5) ((rd_T88 l0_2 x3_2).f6)).bind fun t173 => (if t173 = true then (spec_FlyPathOk.l0 k2 (wrap64 (x3_2 + 1)) a0_0 a0_1 l0_2 a0_3 a0_4) else (some false))) else (none)) else (none)) else (spec_FlyPathOk.l0 k2 (wrap64 (x3_2 + 1)) a0_0 a0_1 l0_2 a0_3 a0_4)) = some r := by rw [if_pos rfl] at H; exact H
     clear H
     have H := H1
     clear H1
     by_cases c26 : x3_2 > 0
     rotate_left
     ·rw [if_neg c26] at H
      have c26b0 : decide (0 < x3_2) = false := decide_eq_false c26
      clear c26
      have H' := Aside0.mk H
      clear H
      obtain ⟨hcz40_0, hcz40_1, hcz40_2, hcz40_3, hcz40_4⟩ := zd5 BK165
      obtain ⟨hfz40_0, hfz40_1, hfz40_2, hfz40_3, hfz40_4⟩ := zn5 BK165
      try go_wp2
      have n0_ := Aside0.mk (blk_drew BK165.out)
      have n1_ := Aside0.mk (below_drew1 HB.out)
      clear BK165 HB
      revert n0_ n1_
      intro BK165 HB
      have p169 : 0 ≤ (x3_2 : Int) := za
      have q169 : x3_2 < (l0_2.length : Int) := za
      obtain ⟨ad169, e169, hx169_0, hx169_1, hx169_2, hx169_3, hx169_4, hx169_5, hx169_6⟩ := at_T88 HR0_2.out x3_2 p169 q169
      have hw169_6 := hx169_6
      have hw169_5 := hx169_5
      have hw169_4 := hx169_4
      have hw169_3 := hx169_3
      have hw169_2 := hx169_2
      have hw169_1 := hx169_1
      have hw169_0 := hx169_0
      cases e169
      replace hx169_0 := zx HB hx169_0
      replace hx169_1 := zx HB hx169_1
      replace hx169_2 := zx HB hx169_2
      replace hx169_3 := zx HB hx169_3
      replace hx169_4 := zx HB hx169_4
      replace hx169_5 := zx HB hx169_5
      replace hx169_6 := zx HB hx169_6
      replace p169 := eq_true p169
      replace q169 := eq_true q169
      refine start_ (n := 26) (S := fun w' => w'.cell? ⟨gb165, 0, none⟩ = some (.int .i64 a0_0) ∧ w'.cell? ⟨gb165, 1, none⟩ = some (.int .i64 a0_1) ∧ w'.cell? ⟨gb165, 2, none⟩ = some (.slice (some ad169) l0_2.length c0_2) ∧ w'.cell? ⟨gb165, 3, none⟩ = some (.int .i64 a0_3) ∧ w'.cell? ⟨gb165, 4, none⟩ = some (.int .i64 a0_4) ∧ w'.cell? (ad169.add ((x3_2).toNat * 7)) = some (.int .i64 ((rd_T88 l0_2 x3_2).f0)) ∧ w'.cell? ⟨(ad169.add ((x3_2).toNat * 7)).block, (ad169.add ((x3_2).toNat * 7)).off + 1, none⟩ = some (.int .i64 ((rd_T88 l0_2 x3_2).f1)) ∧ w'.cell? ⟨(ad169.add ((x3_2).toNat * 7)).block, (ad169.add ((x3_2).toNat * 7)).off + 2, none⟩ = some (.int .i64 ((rd_T88 l0_2 x3_2).f2)) ∧ w'.cell? ⟨(ad169.add ((x3_2).toNat * 7)).block, (ad169.add ((x3_2).toNat * 7)).off + 3, none⟩ = some (.int .i64 ((rd_T88 l0_2 x3_2).f3)) ∧ w'.cell? ⟨(ad169.add ((x3_2).toNat * 7)).block, (ad169.add ((x3_2).toNat * 7)).off + 4, none⟩ = some (.int .i64 ((rd_T88 l0_2 x3_2).f4)) ∧ w'.cell? ⟨(ad169.add ((x3_2).toNat * 7)).block, (ad169.add ((x3_2).toNat * 7)).off + 5, none⟩ = some (.int .i64 ((rd_T88 l0_2 x3_2).f5)) ∧ w'.cell? ⟨(ad169.add ((x3_2).toNat * 7)).block, (ad169.add ((x3_2).toNat * 7)).off + 6, none⟩ = some (.bool ((rd_T88 l0_2 x3_2).f6))) (ds := []) #[false, false, false, false, false, false, false, false, false, false, false, false, false, false, false, false, false, false, false, false, false, false, false, false, false, false] (by kernel_rfl) rfl rfl ⟨(blk_cell BK165.out 0).trans rfl, (blk_cell BK165.out 1).trans rfl, (blk_cell BK165.out 2).trans rfl, (blk_cell BK165.out 3).trans rfl, (blk_cell BK165.out 4).trans rfl, (zw HB hw169_0), (zw HB hw169_1), (zw HB hw169_2), (zw HB hw169_3), (zw HB hw169_4), (zw HB hw169_5), (zw HB hw169_6)⟩ (fun hHeld => ?_); refine with_tabW spec_FlyPathOk.tab6 spec_FlyPathOk.bits6 (fun HT_ HW_ => ?_)
      generalize wr.drew = w41 at BK165 HB hx169_0 hx169_1 hx169_2 hx169_3 hx169_4 hx169_5 hx169_6 hHeld ⊢
      refine pure_ (i := 0) (N := some 35) (v := ?_) (a' := ?_) #[true, false, false, false, false, false, false, false, false, false, false, false, false, false, false, false, false, false, false, false, false, false, false, false, false, false] rfl rfl (any_of HT_.out (by kernel_rfl)) (fun _ _ _ h => h) (Or.inl ⟨by rfl, ?_⟩) ?_ ?_; rotate_left; exact zy; rotate_left; exact zput
      refine pure_ (i := 2) (N := some 37) (v := ?_) (a' := ?_) #[true, false, true, false, false, false, false, false, false, false, false, false, false, false, false, false, false, false, false, false, false, false, false, false, false, false] rfl rfl (any_of HT_.out (by kernel_rfl)) (fun _ _ _ h => h) (Or.inl ⟨by rfl, ?_⟩) ?_ ?_; rotate_left; exact zy; rotate_left; exact zput
      refine take_ (i := 1) (N := some 36) (v := ?_) (a' := ?_) #[true, true, true, false, false, false, false, false, false, false, false, false, false, false, false, false, false, false, false, false, false, false, false, false, false, false] rfl rfl (take_ofW HT_.out HW_.out (by kernel_rfl)) (fun _ _ _ h => h) (Or.inl ⟨by rfl, ?_⟩) hHeld ?_ ?_; rotate_left; exact zt12; rotate_left; exact zput
      refine pure_ (i := 3) (N := some 38) (v := ?_) (a' := ?_) #[true, true, true, true, false, false, false, false, false, false, false, false, false, false, false, false, false, false, false, false, false, false, false, false, false, false] rfl rfl (any_of HT_.out (by kernel_rfl)) (fun _ _ _ h => h) (Or.inl ⟨by rfl, ?_⟩) ?_ ?_; rotate_left; exact zy; rotate_left; exact zput
      refine take_ (i := 4) (N := some 39) (v := ?_) (a' := ?_) #[true, true, true, true, true, false, false, false, false, false, false, false, false, false, false, false, false, false, false, false, false, false, false, false, false, false] rfl rfl (take_ofW HT_.out HW_.out (by kernel_rfl)) (fun _ _ _ h => h) (Or.inl ⟨by rfl, ?_⟩) hHeld ?_ ?_; rotate_left; exact zt12; rotate_left; exact zput
      refine one_ (i := 5) (N := some 40) #[true, true, true, true, true, true, false, false, false, false, false, false, false, false, false, false, false, false, false, false, false, false, false, false, false, false] rfl rfl (one_of HT_.out (by kernel_rfl)) (by decide) (fun K hK => ?_)
      refine goes_ Try.func75 (by kernel_rfl) rfl #[.agg #[.int .i64 ((rd_T88 l0_2 x3_2).f0), .int .i64 ((rd_T88 l0_2 x3_2).f1), .int .i64 ((rd_T88 l0_2 x3_2).f2), .int .i64 ((rd_T88 l0_2 x3_2).f3), .int .i64 ((rd_T88 l0_2 x3_2).f4), .int .i64 ((rd_T88 l0_2 x3_2).f5), .bool ((rd_T88 l0_2 x3_2).f6)]] (by rfl) rfl rfl zl ?_
      with_reducible refine (spec_l22StepOk.calls ((rd_T88 l0_2 x3_2).f0) ((rd_T88 l0_2 x3_2).f1) ((rd_T88 l0_2 x3_2).f2) ((rd_T88 l0_2 x3_2).f3) ((rd_T88 l0_2 x3_2).f4) ((rd_T88 l0_2 x3_2).f5) ((rd_T88 l0_2 x3_2).f6) true _ A24.out).mono ?_
      rintro e w42 ⟨rfl, hb⟩
      refine ⟨_, rfl, ?_⟩
      have n0_ := zb BK165 hb
      have n1_ := Aside0.mk (below_step (zs1 HB GE165) hb)
      clear BK165 HB
      revert n0_ n1_
      intro BK165 HB
      (try clear hb)
      (try clear hb2)
      (try clear hk)
      (try clear hi)
      refine hK.out _ _ ⟨(blk_cell BK165.out 0).trans rfl, (blk_cell BK165.out 1).trans rfl, (blk_cell BK165.out 2).trans rfl, (blk_cell BK165.out 3).trans rfl, (blk_cell BK165.out 4).trans rfl, (zw HB hw169_0), (zw HB hw169_1), (zw HB hw169_2), (zw HB hw169_3), (zw HB hw169_4), (zw HB hw169_5), (zw HB hw169_6)⟩ (fun hHeld => ?_)
      clear hK K
      refine norm_ (a' := ?_) ?_ ?_
      rotate_left
      ·show Act.put _ (some 40) _ = _
       simp only [Act.put, List.setIfInBounds_toArray, List.set_cons_zero, List.set_cons_succ, i64_w, i32_w]
       rfl
      refine pure_ (i := 6) (N := some 41) (v := ?_) (a' := ?_) #[true, true, true, true, true, true, true, false, false, false, false, false, false, false, false, false, false, false, false, false, false, false, false, false, false, false] rfl rfl (any_of HT_.out (by kernel_rfl)) (fun _ _ _ h => h) (Or.inl ⟨by rfl, ?_⟩) ?_ ?_; rotate_left; exact zy; rotate_left; exact zput
      refine pure_ (i := 7) (N := some 42) (v := ?_) (a' := ?_) #[true, true, true, true, true, true, true, true, false, false, false, false, false, false, false, false, false, false, false, false, false, false, false, false, false, false] rfl rfl (any_of HT_.out (by kernel_rfl)) (fun _ _ _ h => h) (Or.inl ⟨by rfl, ?_⟩) ?_ ?_; rotate_left; exact zy; rotate_left; exact zput
      refine pure_ (i := 8) (N := some 43) (v := ?_) (a' := ?_) #[true, true, true, true, true, true, true, true, true, false, false, false, false, false, false, false, false, false, false, false, false, false, false, false, false, false] rfl rfl (any_of HT_.out (by kernel_rfl)) (fun _ _ _ h => h) (Or.inl ⟨by rfl, ?_⟩) ?_ ?_; rotate_left; exact zy; rotate_left; exact zput
      refine pure_ (i := 9) (N := some 44) (v := ?_) (a' := ?_) #[true, true, true, true, true, true, true, true, true, true, false, false, false, false, false, false, false, false, false, false, false, false, false, false, false, false] rfl rfl (any_of HT_.out (by kernel_rfl)) (fun _ _ _ h => h) (Or.inl ⟨by rfl, ?_⟩) ?_ ?_; rotate_left; exact zy; rotate_left; exact zput
      refine pure_ (i := 10) (N := some 45) (v := ?_) (a' := ?_) #[true, true, true, true, true, true, true, true, true, true, true, false, false, false, false, false, false, false, false, false, false, false, false, false, false, false] rfl rfl (any_of HT_.out (by kernel_rfl)) (fun _ _ _ h => h) (Or.inl ⟨by rfl, ?_⟩) ?_ ?_; rotate_left; exact zy; rotate_left; exact zput
      refine pure_ (i := 11) (N := some 46) (v := undef) (a' := ?_) #[true, true, true, true, true, true, true, true, true, true, true, true, false, false, false, false, false, false, false, false, false, false, false, false, false, false] rfl rfl (any_of HT_.out (by kernel_rfl)) (fun _ _ _ h => h) (Or.inr ⟨by rfl, rfl⟩) ?_ ?_; rotate_left; exact zput
      refine pure_ (i := 12) (N := some 47) (v := undef) (a' := ?_) #[true, true, true, true, true, true, true, true, true, true, true, true, true, false, false, false, false, false, false, false, false, false, false, false, false, false] rfl rfl (any_of HT_.out (by kernel_rfl)) (fun _ _ _ h => h) (Or.inr ⟨by rfl, rfl⟩) ?_ ?_; rotate_left; exact zput
      refine pure_ (i := 13) (N := some 48) (v := undef) (a' := ?_) #[true, true, true, true, true, true, true, true, true, true, true, true, true, true, false, false, false, false, false, false, false, false, false, false, false, false] rfl rfl (any_of HT_.out (by kernel_rfl)) (fun _ _ _ h => h) (Or.inr ⟨by rfl, rfl⟩) ?_ ?_; rotate_left; exact zput
      refine pure_ (i := 14) (N := some 49) (v := undef) (a' := ?_) #[true, true, true, true, true, true, true, true, true, true, true, true, true, true, true, false, false, false, false, false, false, false, false, false, false, false] rfl rfl (any_of HT_.out (by kernel_rfl)) (fun _ _ _ h => h) (Or.inr ⟨by rfl, rfl⟩) ?_ ?_; rotate_left; exact zput
      refine pure_ (i := 15) (N := some 50) (v := undef) (a' := ?_) #[true, true, true, true, true, true, true, true, true, true, true, true, true, true, true, true, false, false, false, false, false, false, false, false, false, false] rfl rfl (any_of HT_.out (by kernel_rfl)) (fun _ _ _ h => h) (Or.inr ⟨by rfl, rfl⟩) ?_ ?_; rotate_left; exact zput
      refine pure_ (i := 16) (N := some 51) (v := undef) (a' := ?_) #[true, true, true, true, true, true, true, true, true, true, true, true, true, true, true, true, true, false, false, false, false, false, false, false, false, false] rfl rfl (any_of HT_.out (by kernel_rfl)) (fun _ _ _ h => h) (Or.inr ⟨by rfl, rfl⟩) ?_ ?_; rotate_left; exact zput
      refine pure_ (i := 17) (N := some 52) (v := undef) (a' := ?_) #[true, true, true, true, true, true, true, true, true, true, true, true, true, true, true, true, true, true, false, false, false, false, false, false, false, false] rfl rfl (any_of HT_.out (by kernel_rfl)) (fun _ _ _ h => h) (Or.inr ⟨by rfl, rfl⟩) ?_ ?_; rotate_left; exact zput
      refine pure_ (i := 18) (N := some 53) (v := undef) (a' := ?_) #[true, true, true, true, true, true, true, true, true, true, true, true, true, true, true, true, true, true, true, false, false, false, false, false, false, false] rfl rfl (any_of HT_.out (by kernel_rfl)) (fun _ _ _ h => h) (Or.inr ⟨by rfl, rfl⟩) ?_ ?_; rotate_left; exact zput
      refine pure_ (i := 19) (N := some 54) (v := undef) (a' := ?_) #[true, true, true, true, true, true, true, true, true, true, true, true, true, true, true, true, true, true, true, true, false, false, false, false, false, false] rfl rfl (any_of HT_.out (by kernel_rfl)) (fun _ _ _ h => h) (Or.inr ⟨by rfl, rfl⟩) ?_ ?_; rotate_left; exact zput
      refine pure_ (i := 20) (N := some 55) (v := undef) (a' := ?_) #[true, true, true, true, true, true, true, true, true, true, true, true, true, true, true, true, true, true, true, true, true, false, false, false, false, false] rfl rfl (any_of HT_.out (by kernel_rfl)) (fun _ _ _ h => h) (Or.inr ⟨by rfl, rfl⟩) ?_ ?_; rotate_left; exact zput
      refine pure_ (i := 21) (N := some 56) (v := undef) (a' := ?_) #[true, true, true, true, true, true, true, true, true, true, true, true, true, true, true, true, true, true, true, true, true, true, false, false, false, false] rfl rfl (any_of HT_.out (by kernel_rfl)) (fun _ _ _ h => h) (Or.inr ⟨by rfl, rfl⟩) ?_ ?_; rotate_left; exact zput
      refine pure_ (i := 22) (N := some 57) (v := undef) (a' := ?_) #[true, true, true, true, true, true, true, true, true, true, true, true, true, true, true, true, true, true, true, true, true, true, true, false, false, false] rfl rfl (any_of HT_.out (by kernel_rfl)) (fun _ _ _ h => h) (Or.inr ⟨by rfl, rfl⟩) ?_ ?_; rotate_left; exact zput
      refine pure_ (i := 23) (N := some 58) (v := undef) (a' := ?_) #[true, true, true, true, true, true, true, true, true, true, true, true, true, true, true, true, true, true, true, true, true, true, true, true, false, false] rfl rfl (any_of HT_.out (by kernel_rfl)) (fun _ _ _ h => h) (Or.inr ⟨by rfl, rfl⟩) ?_ ?_; rotate_left; exact zput
      refine pure_ (i := 24) (N := some 59) (v := ?_) (a' := ?_) #[true, true, true, true, true, true, true, true, true, true, true, true, true, true, true, true, true, true, true, true, true, true, true, true, true, false] rfl rfl (any_of HT_.out (by kernel_rfl)) (fun _ _ _ h => h) (Or.inl ⟨by rfl, ?_⟩) ?_ ?_; rotate_left; exact zy; rotate_left; exact zput
      refine pure_ (i := 25) (N := some 60) (v := ?_) (a' := ?_) #[true, true, true, true, true, true, true, true, true, true, true, true, true, true, true, true, true, true, true, true, true, true, true, true, true, true] rfl rfl (any_of HT_.out (by kernel_rfl)) (fun _ _ _ h => h) (Or.inl ⟨by rfl, ?_⟩) ?_ ?_; rotate_left; exact zy; rotate_left; exact zput
      refine done_ (done_of HT_.out (by kernel_rfl)) ?_
      try go_wp2
      go_roundg k2
      case measure => have := HJ1.out; have := HK2.out; omega
      case rel => exact ⟨(wrap64 (x3_2 + 1)), zi, H', ⟨by have := HJ1.out; have := HK2.out; omega⟩, ⟨zh BK165⟩, ⟨zs1 HB GE165⟩⟩
     rw [if_pos c26] at H
     have c26b0 : decide (0 < x3_2) = true := decide_eq_true c26
     clear c26
     obtain ⟨ji27, hji27⟩ : ∃ j_ : Int, (wrap64 (x3_2 - 1)) = j_ := ⟨_, rfl⟩
     replace H : (if 0 ≤ (ji27) then (if (ji27) < (l0_2.length : Int) then ((spec_l22Next.f ((rd_T88 l0_2 (ji27)).f0) ((rd_T88 l0_2 (ji27)).f1) ((rd_T88 l0_2 (ji27)).f2) ((rd_T88 l0_2 (ji27)).f3) ((rd_T88 l0_2 (ji27)).f4) ((rd_T88 l0_2 (ji27)).f5) ((rd_T88 l0_2 (ji27)).f6) ((rd_T88 l0_2 x3_2).f0) ((rd_T88 l0_2 x3_2).f1) ((rd_T88 l0_2 x3_2).f2) ((rd_T88 l0_2 x3_2).f3) ((rd_T88 l0_2 x3_2).f4) ((rd_T88 l0_2 x3_2).f5) ((rd_T88 l0_2 x3_2).f6)).bind fun t173 => (if t173 = true then (spec_FlyPathOk.l0 k2 (wrap64 (x3_2 + 1)) a0_0 a0_1 l0_2 a0_3 a0_4) else (some false))) else (none)) else (none)) = some r := by first | (rw [hji27] at H; exact H) | (simp only [hji27] at H ⊢; exact H)
     (try rw [hji27] at A24)
     have hji27w : (IntKind.i64.wrap (x3_2 - 1)) = ji27 := (i64_w _).trans hji27
     by_cases c28 : 0 ≤ (ji27)
     rotate_left
     ·rw [if_neg c28] at H
      exact absurd H (by simp)
     rw [if_pos c28] at H
     have c28b0 : decide (0 ≤ (ji27)) = true := decide_eq_true c28
     clear c28
     by_cases c29 : (ji27) < (l0_2.length : Int)
     rotate_left
     ·rw [if_neg c29] at H
      exact absurd H (by simp)
     rw [if_pos c29] at H
     have c29b0 : decide ((ji27) < (l0_2.length : Int)) = true := decide_eq_true c29
     clear c29
     replace H := Option.bind_eq_some_iff.mp H
     obtain ⟨t173, A300, H⟩ := H
     replace H : (if t173 = true then (spec_FlyPathOk.l0 k2 (wrap64 (x3_2 + 1)) a0_0 a0_1 l0_2 a0_3 a0_4) else (some false)) = some r := H
     have A30 := Aside0.mk A300
     clear A300
     by_cases c31 : t173 = true
     rotate_left
     ·replace c31 := Bool.eq_false_iff.mpr c31
      subst c31
      have H1 : (some false) = some r := by rw [if_neg (show ¬ (false = true) by decide)] at H; exact H
      clear H
      have H := H1
      clear H1
      obtain rfl := Option.some.inj H
      obtain ⟨hcz36_0, hcz36_1, hcz36_2, hcz36_3, hcz36_4⟩ := zd5 BK165
      obtain ⟨hfz36_0, hfz36_1, hfz36_2, hfz36_3, hfz36_4⟩ := zn5 BK165
      try go_wp2
      have n0_ := Aside0.mk (blk_drew BK165.out)
      have n1_ := Aside0.mk (below_drew1 HB.out)
      clear BK165 HB
      revert n0_ n1_
      intro BK165 HB
      have p169 : 0 ≤ (x3_2 : Int) := za
      have q169 : x3_2 < (l0_2.length : Int) := za
      obtain ⟨ad169, e169, hx169_0, hx169_1, hx169_2, hx169_3, hx169_4, hx169_5, hx169_6⟩ := at_T88 HR0_2.out x3_2 p169 q169
      have hw169_6 := hx169_6
      have hw169_5 := hx169_5
      have hw169_4 := hx169_4
      have hw169_3 := hx169_3
      have hw169_2 := hx169_2
      have hw169_1 := hx169_1
      have hw169_0 := hx169_0
      cases e169
      replace hx169_0 := zx HB hx169_0
      replace hx169_1 := zx HB hx169_1
      replace hx169_2 := zx HB hx169_2
      replace hx169_3 := zx HB hx169_3
      replace hx169_4 := zx HB hx169_4
      replace hx169_5 := zx HB hx169_5
      replace hx169_6 := zx HB hx169_6
      replace p169 := eq_true p169
      replace q169 := eq_true q169
      have p171 : 0 ≤ ((ji27) : Int) := za
      have q171 : (ji27) < (l0_2.length : Int) := za
      obtain ⟨ad171, e171, hx171_0, hx171_1, hx171_2, hx171_3, hx171_4, hx171_5, hx171_6⟩ := at_T88 HR0_2.out (ji27) p171 q171
      have hw171_6 := hx171_6
      have hw171_5 := hx171_5
      have hw171_4 := hx171_4
      have hw171_3 := hx171_3
      have hw171_2 := hx171_2
      have hw171_1 := hx171_1
      have hw171_0 := hx171_0
      obtain rfl : ad169 = ad171 := (by injection e171)
      replace hx171_0 := zx HB hx171_0
      replace hx171_1 := zx HB hx171_1
      replace hx171_2 := zx HB hx171_2
      replace hx171_3 := zx HB hx171_3
      replace hx171_4 := zx HB hx171_4
      replace hx171_5 := zx HB hx171_5
      replace hx171_6 := zx HB hx171_6
      replace p171 := eq_true p171
      replace q171 := eq_true q171
      have p172 : 0 ≤ (x3_2 : Int) := za
      have q172 : x3_2 < (l0_2.length : Int) := za
      obtain ⟨ad172, e172, hx172_0, hx172_1, hx172_2, hx172_3, hx172_4, hx172_5, hx172_6⟩ := at_T88 HR0_2.out x3_2 p172 q172
      have hw172_6 := hx172_6
      have hw172_5 := hx172_5
      have hw172_4 := hx172_4
      have hw172_3 := hx172_3
      have hw172_2 := hx172_2
      have hw172_1 := hx172_1
      have hw172_0 := hx172_0
      obtain rfl : ad169 = ad172 := (by injection e172)
      replace hx172_0 := zx HB hx172_0
      replace hx172_1 := zx HB hx172_1
      replace hx172_2 := zx HB hx172_2
      replace hx172_3 := zx HB hx172_3
      replace hx172_4 := zx HB hx172_4
      replace hx172_5 := zx HB hx172_5
      replace hx172_6 := zx HB hx172_6
      replace p172 := eq_true p172
      replace q172 := eq_true q172
      refine start_ (n := 26) (S := fun w' => w'.cell? ⟨gb165, 0, none⟩ = some (.int .i64 a0_0) ∧ w'.cell? ⟨gb165, 1, none⟩ = some (.int .i64 a0_1) ∧ w'.cell? ⟨gb165, 2, none⟩ = some (.slice (some ad169) l0_2.length c0_2) ∧ w'.cell? ⟨gb165, 3, none⟩ = some (.int .i64 a0_3) ∧ w'.cell? ⟨gb165, 4, none⟩ = some (.int .i64 a0_4) ∧ w'.cell? (ad169.add ((x3_2).toNat * 7)) = some (.int .i64 ((rd_T88 l0_2 x3_2).f0)) ∧ w'.cell? ⟨(ad169.add ((x3_2).toNat * 7)).block, (ad169.add ((x3_2).toNat * 7)).off + 1, none⟩ = some (.int .i64 ((rd_T88 l0_2 x3_2).f1)) ∧ w'.cell? ⟨(ad169.add ((x3_2).toNat * 7)).block, (ad169.add ((x3_2).toNat * 7)).off + 2, none⟩ = some (.int .i64 ((rd_T88 l0_2 x3_2).f2)) ∧ w'.cell? ⟨(ad169.add ((x3_2).toNat * 7)).block, (ad169.add ((x3_2).toNat * 7)).off + 3, none⟩ = some (.int .i64 ((rd_T88 l0_2 x3_2).f3)) ∧ w'.cell? ⟨(ad169.add ((x3_2).toNat * 7)).block, (ad169.add ((x3_2).toNat * 7)).off + 4, none⟩ = some (.int .i64 ((rd_T88 l0_2 x3_2).f4)) ∧ w'.cell? ⟨(ad169.add ((x3_2).toNat * 7)).block, (ad169.add ((x3_2).toNat * 7)).off + 5, none⟩ = some (.int .i64 ((rd_T88 l0_2 x3_2).f5)) ∧ w'.cell? ⟨(ad169.add ((x3_2).toNat * 7)).block, (ad169.add ((x3_2).toNat * 7)).off + 6, none⟩ = some (.bool ((rd_T88 l0_2 x3_2).f6)) ∧ w'.cell? (ad169.add (((ji27)).toNat * 7)) = some (.int .i64 ((rd_T88 l0_2 (ji27)).f0)) ∧ w'.cell? ⟨(ad169.add (((ji27)).toNat * 7)).block, (ad169.add (((ji27)).toNat * 7)).off + 1, none⟩ = some (.int .i64 ((rd_T88 l0_2 (ji27)).f1)) ∧ w'.cell? ⟨(ad169.add (((ji27)).toNat * 7)).block, (ad169.add (((ji27)).toNat * 7)).off + 2, none⟩ = some (.int .i64 ((rd_T88 l0_2 (ji27)).f2)) ∧ w'.cell? ⟨(ad169.add (((ji27)).toNat * 7)).block, (ad169.add (((ji27)).toNat * 7)).off + 3, none⟩ = some (.int .i64 ((rd_T88 l0_2 (ji27)).f3)) ∧ w'.cell? ⟨(ad169.add (((ji27)).toNat * 7)).block, (ad169.add (((ji27)).toNat * 7)).off + 4, none⟩ = some (.int .i64 ((rd_T88 l0_2 (ji27)).f4)) ∧ w'.cell? ⟨(ad169.add (((ji27)).toNat * 7)).block, (ad169.add (((ji27)).toNat * 7)).off + 5, none⟩ = some (.int .i64 ((rd_T88 l0_2 (ji27)).f5)) ∧ w'.cell? ⟨(ad169.add (((ji27)).toNat * 7)).block, (ad169.add (((ji27)).toNat * 7)).off + 6, none⟩ = some (.bool ((rd_T88 l0_2 (ji27)).f6)) ∧ w'.cell? (ad169.add ((x3_2).toNat * 7)) = some (.int .i64 ((rd_T88 l0_2 x3_2).f0)) ∧ w'.cell? ⟨(ad169.add ((x3_2).toNat * 7)).block, (ad169.add ((x3_2).toNat * 7)).off + 1, none⟩ = some (.int .i64 ((rd_T88 l0_2 x3_2).f1)) ∧ w'.cell? ⟨(ad169.add ((x3_2).toNat * 7)).block, (ad169.add ((x3_2).toNat * 7)).off + 2, none⟩ = some (.int .i64 ((rd_T88 l0_2 x3_2).f2)) ∧ w'.cell? ⟨(ad169.add ((x3_2).toNat * 7)).block, (ad169.add ((x3_2).toNat * 7)).off + 3, none⟩ = some (.int .i64 ((rd_T88 l0_2 x3_2).f3)) ∧ w'.cell? ⟨(ad169.add ((x3_2).toNat * 7)).block, (ad169.add ((x3_2).toNat * 7)).off + 4, none⟩ = some (.int .i64 ((rd_T88 l0_2 x3_2).f4)) ∧ w'.cell? ⟨(ad169.add ((x3_2).toNat * 7)).block, (ad169.add ((x3_2).toNat * 7)).off + 5, none⟩ = some (.int .i64 ((rd_T88 l0_2 x3_2).f5)) ∧ w'.cell? ⟨(ad169.add ((x3_2).toNat * 7)).block, (ad169.add ((x3_2).toNat * 7)).off + 6, none⟩ = some (.bool ((rd_T88 l0_2 x3_2).f6))) (ds := []) #[false, false, false, false, false, false, false, false, false, false, false, false, false, false, false, false, false, false, false, false, false, false, false, false, false, false] (by kernel_rfl) rfl rfl ⟨(blk_cell BK165.out 0).trans rfl, (blk_cell BK165.out 1).trans rfl, (blk_cell BK165.out 2).trans rfl, (blk_cell BK165.out 3).trans rfl, (blk_cell BK165.out 4).trans rfl, (zw HB hw169_0), (zw HB hw169_1), (zw HB hw169_2), (zw HB hw169_3), (zw HB hw169_4), (zw HB hw169_5), (zw HB hw169_6), (zw HB hw171_0), (zw HB hw171_1), (zw HB hw171_2), (zw HB hw171_3), (zw HB hw171_4), (zw HB hw171_5), (zw HB hw171_6), (zw HB hw172_0), (zw HB hw172_1), (zw HB hw172_2), (zw HB hw172_3), (zw HB hw172_4), (zw HB hw172_5), (zw HB hw172_6)⟩ (fun hHeld => ?_); refine with_tabW spec_FlyPathOk.tab6 spec_FlyPathOk.bits6 (fun HT_ HW_ => ?_)
      generalize wr.drew = w37 at BK165 HB hx169_0 hx169_1 hx169_2 hx169_3 hx169_4 hx169_5 hx169_6 hx171_0 hx171_1 hx171_2 hx171_3 hx171_4 hx171_5 hx171_6 hx172_0 hx172_1 hx172_2 hx172_3 hx172_4 hx172_5 hx172_6 hHeld ⊢
      refine pure_ (i := 0) (N := some 35) (v := ?_) (a' := ?_) #[true, false, false, false, false, false, false, false, false, false, false, false, false, false, false, false, false, false, false, false, false, false, false, false, false, false] rfl rfl (any_of HT_.out (by kernel_rfl)) (fun _ _ _ h => h) (Or.inl ⟨by rfl, ?_⟩) ?_ ?_; rotate_left; exact zy; rotate_left; exact zput
      refine pure_ (i := 2) (N := some 37) (v := ?_) (a' := ?_) #[true, false, true, false, false, false, false, false, false, false, false, false, false, false, false, false, false, false, false, false, false, false, false, false, false, false] rfl rfl (any_of HT_.out (by kernel_rfl)) (fun _ _ _ h => h) (Or.inl ⟨by rfl, ?_⟩) ?_ ?_; rotate_left; exact zy; rotate_left; exact zput
      refine take_ (i := 1) (N := some 36) (v := ?_) (a' := ?_) #[true, true, true, false, false, false, false, false, false, false, false, false, false, false, false, false, false, false, false, false, false, false, false, false, false, false] rfl rfl (take_ofW HT_.out HW_.out (by kernel_rfl)) (fun _ _ _ h => h) (Or.inl ⟨by rfl, ?_⟩) hHeld ?_ ?_; rotate_left; exact zt26; rotate_left; exact zput
      refine pure_ (i := 3) (N := some 38) (v := ?_) (a' := ?_) #[true, true, true, true, false, false, false, false, false, false, false, false, false, false, false, false, false, false, false, false, false, false, false, false, false, false] rfl rfl (any_of HT_.out (by kernel_rfl)) (fun _ _ _ h => h) (Or.inl ⟨by rfl, ?_⟩) ?_ ?_; rotate_left; exact zy; rotate_left; exact zput
      refine take_ (i := 4) (N := some 39) (v := ?_) (a' := ?_) #[true, true, true, true, true, false, false, false, false, false, false, false, false, false, false, false, false, false, false, false, false, false, false, false, false, false] rfl rfl (take_ofW HT_.out HW_.out (by kernel_rfl)) (fun _ _ _ h => h) (Or.inl ⟨by rfl, ?_⟩) hHeld ?_ ?_; rotate_left; exact zt26; rotate_left; exact zput
      refine one_ (i := 5) (N := some 40) #[true, true, true, true, true, true, false, false, false, false, false, false, false, false, false, false, false, false, false, false, false, false, false, false, false, false] rfl rfl (one_of HT_.out (by kernel_rfl)) (by decide) (fun K hK => ?_)
      refine goes_ Try.func75 (by kernel_rfl) rfl #[.agg #[.int .i64 ((rd_T88 l0_2 x3_2).f0), .int .i64 ((rd_T88 l0_2 x3_2).f1), .int .i64 ((rd_T88 l0_2 x3_2).f2), .int .i64 ((rd_T88 l0_2 x3_2).f3), .int .i64 ((rd_T88 l0_2 x3_2).f4), .int .i64 ((rd_T88 l0_2 x3_2).f5), .bool ((rd_T88 l0_2 x3_2).f6)]] (by rfl) rfl rfl zl ?_
      with_reducible refine (spec_l22StepOk.calls ((rd_T88 l0_2 x3_2).f0) ((rd_T88 l0_2 x3_2).f1) ((rd_T88 l0_2 x3_2).f2) ((rd_T88 l0_2 x3_2).f3) ((rd_T88 l0_2 x3_2).f4) ((rd_T88 l0_2 x3_2).f5) ((rd_T88 l0_2 x3_2).f6) true _ A24.out).mono ?_
      rintro e w38 ⟨rfl, hb⟩
      refine ⟨_, rfl, ?_⟩
      have n0_ := zb BK165 hb
      have n1_ := Aside0.mk (below_step (zs1 HB GE165) hb)
      clear BK165 HB
      revert n0_ n1_
      intro BK165 HB
      (try clear hb)
      (try clear hb2)
      (try clear hk)
      (try clear hi)
      refine hK.out _ _ ⟨(blk_cell BK165.out 0).trans rfl, (blk_cell BK165.out 1).trans rfl, (blk_cell BK165.out 2).trans rfl, (blk_cell BK165.out 3).trans rfl, (blk_cell BK165.out 4).trans rfl, (zw HB hw169_0), (zw HB hw169_1), (zw HB hw169_2), (zw HB hw169_3), (zw HB hw169_4), (zw HB hw169_5), (zw HB hw169_6), (zw HB hw171_0), (zw HB hw171_1), (zw HB hw171_2), (zw HB hw171_3), (zw HB hw171_4), (zw HB hw171_5), (zw HB hw171_6), (zw HB hw172_0), (zw HB hw172_1), (zw HB hw172_2), (zw HB hw172_3), (zw HB hw172_4), (zw HB hw172_5), (zw HB hw172_6)⟩ (fun hHeld => ?_)
      clear hK K
      refine norm_ (a' := ?_) ?_ ?_
      rotate_left
      ·show Act.put _ (some 40) _ = _
       simp only [Act.put, List.setIfInBounds_toArray, List.set_cons_zero, List.set_cons_succ, i64_w, i32_w]
       rfl
      refine pure_ (i := 6) (N := some 41) (v := ?_) (a' := ?_) #[true, true, true, true, true, true, true, false, false, false, false, false, false, false, false, false, false, false, false, false, false, false, false, false, false, false] rfl rfl (any_of HT_.out (by kernel_rfl)) (fun _ _ _ h => h) (Or.inl ⟨by rfl, ?_⟩) ?_ ?_; rotate_left; exact zy; rotate_left; exact zput
      refine pure_ (i := 7) (N := some 42) (v := ?_) (a' := ?_) #[true, true, true, true, true, true, true, true, false, false, false, false, false, false, false, false, false, false, false, false, false, false, false, false, false, false] rfl rfl (any_of HT_.out (by kernel_rfl)) (fun _ _ _ h => h) (Or.inl ⟨by rfl, ?_⟩) ?_ ?_; rotate_left; exact zy; rotate_left; exact zput
      refine pure_ (i := 8) (N := some 43) (v := ?_) (a' := ?_) #[true, true, true, true, true, true, true, true, true, false, false, false, false, false, false, false, false, false, false, false, false, false, false, false, false, false] rfl rfl (any_of HT_.out (by kernel_rfl)) (fun _ _ _ h => h) (Or.inl ⟨by rfl, ?_⟩) ?_ ?_; rotate_left; exact zy; rotate_left; exact zput
      refine pure_ (i := 9) (N := some 44) (v := ?_) (a' := ?_) #[true, true, true, true, true, true, true, true, true, true, false, false, false, false, false, false, false, false, false, false, false, false, false, false, false, false] rfl rfl (any_of HT_.out (by kernel_rfl)) (fun _ _ _ h => h) (Or.inl ⟨by rfl, ?_⟩) ?_ ?_; rotate_left; exact zy; rotate_left; exact zput
      refine pure_ (i := 10) (N := some 45) (v := ?_) (a' := ?_) #[true, true, true, true, true, true, true, true, true, true, true, false, false, false, false, false, false, false, false, false, false, false, false, false, false, false] rfl rfl (any_of HT_.out (by kernel_rfl)) (fun _ _ _ h => h) (Or.inl ⟨by rfl, ?_⟩) ?_ ?_; rotate_left; exact zy; rotate_left; exact zput
      refine pure_ (i := 11) (N := some 46) (v := ?_) (a' := ?_) #[true, true, true, true, true, true, true, true, true, true, true, true, false, false, false, false, false, false, false, false, false, false, false, false, false, false] rfl rfl (any_of HT_.out (by kernel_rfl)) (fun _ _ _ h => h) (Or.inl ⟨by rfl, ?_⟩) ?_ ?_; rotate_left; exact zy; rotate_left; exact zput
      refine pure_ (i := 13) (N := some 48) (v := ?_) (a' := ?_) #[true, true, true, true, true, true, true, true, true, true, true, true, false, true, false, false, false, false, false, false, false, false, false, false, false, false] rfl rfl (any_of HT_.out (by kernel_rfl)) (fun _ _ _ h => h) (Or.inl ⟨by rfl, ?_⟩) ?_ ?_; rotate_left; exact zy; rotate_left; exact zput
      refine pure_ (i := 14) (N := some 49) (v := ?_) (a' := ?_) #[true, true, true, true, true, true, true, true, true, true, true, true, false, true, true, false, false, false, false, false, false, false, false, false, false, false] rfl rfl (any_of HT_.out (by kernel_rfl)) (fun _ _ _ h => h) (Or.inl ⟨by rfl, ?_⟩) ?_ ?_; rotate_left; exact zy; rotate_left; exact zput
      refine pure_ (i := 17) (N := some 52) (v := ?_) (a' := ?_) #[true, true, true, true, true, true, true, true, true, true, true, true, false, true, true, false, false, true, false, false, false, false, false, false, false, false] rfl rfl (any_of HT_.out (by kernel_rfl)) (fun _ _ _ h => h) (Or.inl ⟨by rfl, ?_⟩) ?_ ?_; rotate_left; exact zy; rotate_left; exact zput
      refine pure_ (i := 19) (N := some 54) (v := ?_) (a' := ?_) #[true, true, true, true, true, true, true, true, true, true, true, true, false, true, true, false, false, true, false, true, false, false, false, false, false, false] rfl rfl (any_of HT_.out (by kernel_rfl)) (fun _ _ _ h => h) (Or.inl ⟨by rfl, ?_⟩) ?_ ?_; rotate_left; exact zy; rotate_left; exact zput
      refine take_ (i := 12) (N := some 47) (v := ?_) (a' := ?_) #[true, true, true, true, true, true, true, true, true, true, true, true, true, true, true, false, false, true, false, true, false, false, false, false, false, false] rfl rfl (take_ofW HT_.out HW_.out (by kernel_rfl)) (fun _ _ _ h => h) (Or.inl ⟨by rfl, ?_⟩) hHeld ?_ ?_; rotate_left; exact zt26; rotate_left; exact zput
      refine pure_ (i := 15) (N := some 50) (v := ?_) (a' := ?_) #[true, true, true, true, true, true, true, true, true, true, true, true, true, true, true, true, false, true, false, true, false, false, false, false, false, false] rfl rfl (any_of HT_.out (by kernel_rfl)) (fun _ _ _ h => h) (Or.inl ⟨by rfl, ?_⟩) ?_ ?_; rotate_left; exact zy; rotate_left; exact zput
      refine take_ (i := 16) (N := some 51) (v := ?_) (a' := ?_) #[true, true, true, true, true, true, true, true, true, true, true, true, true, true, true, true, true, true, false, true, false, false, false, false, false, false] rfl rfl (take_ofW HT_.out HW_.out (by kernel_rfl)) (fun _ _ _ h => h) (Or.inl ⟨by rfl, ?_⟩) hHeld ?_ ?_; rotate_left; exact zt26; rotate_left; exact zput
      refine take_ (i := 18) (N := some 53) (v := ?_) (a' := ?_) #[true, true, true, true, true, true, true, true, true, true, true, true, true, true, true, true, true, true, true, true, false, false, false, false, false, false] rfl rfl (take_ofW HT_.out HW_.out (by kernel_rfl)) (fun _ _ _ h => h) (Or.inl ⟨by rfl, ?_⟩) hHeld ?_ ?_; rotate_left; exact zt26; rotate_left; exact zput
      refine pure_ (i := 20) (N := some 55) (v := ?_) (a' := ?_) #[true, true, true, true, true, true, true, true, true, true, true, true, true, true, true, true, true, true, true, true, true, false, false, false, false, false] rfl rfl (any_of HT_.out (by kernel_rfl)) (fun _ _ _ h => h) (Or.inl ⟨by rfl, ?_⟩) ?_ ?_; rotate_left; exact zy; rotate_left; exact zput
      refine take_ (i := 21) (N := some 56) (v := ?_) (a' := ?_) #[true, true, true, true, true, true, true, true, true, true, true, true, true, true, true, true, true, true, true, true, true, true, false, false, false, false] rfl rfl (take_ofW HT_.out HW_.out (by kernel_rfl)) (fun _ _ _ h => h) (Or.inl ⟨by rfl, ?_⟩) hHeld ?_ ?_; rotate_left; exact zt26; rotate_left; exact zput
      refine one_ (i := 22) (N := some 57) #[true, true, true, true, true, true, true, true, true, true, true, true, true, true, true, true, true, true, true, true, true, true, true, false, false, false] rfl rfl (one_of HT_.out (by kernel_rfl)) (by decide) (fun K hK => ?_)
      refine goes_ Try.func76 (by kernel_rfl) rfl #[.agg #[.int .i64 ((rd_T88 l0_2 (ji27)).f0), .int .i64 ((rd_T88 l0_2 (ji27)).f1), .int .i64 ((rd_T88 l0_2 (ji27)).f2), .int .i64 ((rd_T88 l0_2 (ji27)).f3), .int .i64 ((rd_T88 l0_2 (ji27)).f4), .int .i64 ((rd_T88 l0_2 (ji27)).f5), .bool ((rd_T88 l0_2 (ji27)).f6)], .agg #[.int .i64 ((rd_T88 l0_2 x3_2).f0), .int .i64 ((rd_T88 l0_2 x3_2).f1), .int .i64 ((rd_T88 l0_2 x3_2).f2), .int .i64 ((rd_T88 l0_2 x3_2).f3), .int .i64 ((rd_T88 l0_2 x3_2).f4), .int .i64 ((rd_T88 l0_2 x3_2).f5), .bool ((rd_T88 l0_2 x3_2).f6)]] (by rfl) rfl rfl (by (try simp only [List.map_toArray, List.map_cons, List.map_nil]); first | done | (simp only [hji27]; rfl) | rfl | (simp only [List.length_drop, List.length_take]; rfl)) ?_
      with_reducible refine (spec_l22Next.calls ((rd_T88 l0_2 (ji27)).f0) ((rd_T88 l0_2 (ji27)).f1) ((rd_T88 l0_2 (ji27)).f2) ((rd_T88 l0_2 (ji27)).f3) ((rd_T88 l0_2 (ji27)).f4) ((rd_T88 l0_2 (ji27)).f5) ((rd_T88 l0_2 (ji27)).f6) ((rd_T88 l0_2 x3_2).f0) ((rd_T88 l0_2 x3_2).f1) ((rd_T88 l0_2 x3_2).f2) ((rd_T88 l0_2 x3_2).f3) ((rd_T88 l0_2 x3_2).f4) ((rd_T88 l0_2 x3_2).f5) ((rd_T88 l0_2 x3_2).f6) false _ A30.out).mono ?_
      rintro e w39 ⟨rfl, hb⟩
      refine ⟨_, rfl, ?_⟩
      have n0_ := zb BK165 hb
      have n1_ := Aside0.mk (below_step (zs1 HB GE165) hb)
      clear BK165 HB
      revert n0_ n1_
      intro BK165 HB
      (try clear hb)
      (try clear hb2)
      (try clear hk)
      (try clear hi)
      refine hK.out _ _ ⟨(blk_cell BK165.out 0).trans rfl, (blk_cell BK165.out 1).trans rfl, (blk_cell BK165.out 2).trans rfl, (blk_cell BK165.out 3).trans rfl, (blk_cell BK165.out 4).trans rfl, (zw HB hw169_0), (zw HB hw169_1), (zw HB hw169_2), (zw HB hw169_3), (zw HB hw169_4), (zw HB hw169_5), (zw HB hw169_6), (zw HB hw171_0), (zw HB hw171_1), (zw HB hw171_2), (zw HB hw171_3), (zw HB hw171_4), (zw HB hw171_5), (zw HB hw171_6), (zw HB hw172_0), (zw HB hw172_1), (zw HB hw172_2), (zw HB hw172_3), (zw HB hw172_4), (zw HB hw172_5), (zw HB hw172_6)⟩ (fun hHeld => ?_)
      clear hK K
      refine norm_ (a' := ?_) ?_ ?_
      rotate_left
      ·show Act.put _ (some 57) _ = _
       simp only [Act.put, List.setIfInBounds_toArray, List.set_cons_zero, List.set_cons_succ, i64_w, i32_w]
       rfl
      refine pure_ (i := 23) (N := some 58) (v := ?_) (a' := ?_) #[true, true, true, true, true, true, true, true, true, true, true, true, true, true, true, true, true, true, true, true, true, true, true, true, false, false] rfl rfl (any_of HT_.out (by kernel_rfl)) (fun _ _ _ h => h) (Or.inl ⟨by rfl, ?_⟩) ?_ ?_; rotate_left; exact zy; rotate_left; exact zput
      refine pure_ (i := 24) (N := some 59) (v := ?_) (a' := ?_) #[true, true, true, true, true, true, true, true, true, true, true, true, true, true, true, true, true, true, true, true, true, true, true, true, true, false] rfl rfl (any_of HT_.out (by kernel_rfl)) (fun _ _ _ h => h) (Or.inl ⟨by rfl, ?_⟩) ?_ ?_; rotate_left; exact zy; rotate_left; exact zput
      refine pure_ (i := 25) (N := some 60) (v := ?_) (a' := ?_) #[true, true, true, true, true, true, true, true, true, true, true, true, true, true, true, true, true, true, true, true, true, true, true, true, true, true] rfl rfl (any_of HT_.out (by kernel_rfl)) (fun _ _ _ h => h) (Or.inl ⟨by rfl, ?_⟩) ?_ ?_; rotate_left; exact zy; rotate_left; exact zput
      refine done_ (done_of HT_.out (by kernel_rfl)) ?_
      try go_wp2
      go_ret
      exact ⟨by first | rfl | (simp [errW_none, errW_some] <;> rfl) | (simp only [← hji27]; first | rfl | (simp [errW_none, errW_some] <;> rfl)) | (simp [*, errW_none, errW_some] <;> rfl), zs1 HB GE165⟩
     subst c31
     have H1 : (spec_FlyPathOk.l0 k2 (wrap64 (x3_2 + 1)) a0_0 a0_1 l0_2 a0_3 a0_4) = some r := by rw [if_pos rfl] at H; exact H
     clear H
     have H := H1
     clear H1
     have H' := Aside0.mk H
     clear H
     obtain ⟨hcz32_0, hcz32_1, hcz32_2, hcz32_3, hcz32_4⟩ := zd5 BK165
     obtain ⟨hfz32_0, hfz32_1, hfz32_2, hfz32_3, hfz32_4⟩ := zn5 BK165
     try go_wp2
     have n0_ := Aside0.mk (blk_drew BK165.out)
     have n1_ := Aside0.mk (below_drew1 HB.out)
     clear BK165 HB
     revert n0_ n1_
     intro BK165 HB
     have p169 : 0 ≤ (x3_2 : Int) := za
     have q169 : x3_2 < (l0_2.length : Int) := za
     obtain ⟨ad169, e169, hx169_0, hx169_1, hx169_2, hx169_3, hx169_4, hx169_5, hx169_6⟩ := at_T88 HR0_2.out x3_2 p169 q169
     have hw169_6 := hx169_6
     have hw169_5 := hx169_5
     have hw169_4 := hx169_4
     have hw169_3 := hx169_3
     have hw169_2 := hx169_2
     have hw169_1 := hx169_1
     have hw169_0 := hx169_0
     cases e169
     replace hx169_0 := zx HB hx169_0
     replace hx169_1 := zx HB hx169_1
     replace hx169_2 := zx HB hx169_2
     replace hx169_3 := zx HB hx169_3
     replace hx169_4 := zx HB hx169_4
     replace hx169_5 := zx HB hx169_5
     replace hx169_6 := zx HB hx169_6
     replace p169 := eq_true p169
     replace q169 := eq_true q169
     have p171 : 0 ≤ ((ji27) : Int) := za
     have q171 : (ji27) < (l0_2.length : Int) := za
     obtain ⟨ad171, e171, hx171_0, hx171_1, hx171_2, hx171_3, hx171_4, hx171_5, hx171_6⟩ := at_T88 HR0_2.out (ji27) p171 q171
     have hw171_6 := hx171_6
     have hw171_5 := hx171_5
     have hw171_4 := hx171_4
     have hw171_3 := hx171_3
     have hw171_2 := hx171_2
     have hw171_1 := hx171_1
     have hw171_0 := hx171_0
     obtain rfl : ad169 = ad171 := (by injection e171)
     replace hx171_0 := zx HB hx171_0
     replace hx171_1 := zx HB hx171_1
     replace hx171_2 := zx HB hx171_2
     replace hx171_3 := zx HB hx171_3
     replace hx171_4 := zx HB hx171_4
     replace hx171_5 := zx HB hx171_5
     replace hx171_6 := zx HB hx171_6
     replace p171 := eq_true p171
     replace q171 := eq_true q171
     have p172 : 0 ≤ (x3_2 : Int) := za
     have q172 : x3_2 < (l0_2.length : Int) := za
     obtain ⟨ad172, e172, hx172_0, hx172_1, hx172_2, hx172_3, hx172_4, hx172_5, hx172_6⟩ := at_T88 HR0_2.out x3_2 p172 q172
     have hw172_6 := hx172_6
     have hw172_5 := hx172_5
     have hw172_4 := hx172_4
     have hw172_3 := hx172_3
     have hw172_2 := hx172_2
     have hw172_1 := hx172_1
     have hw172_0 := hx172_0
     obtain rfl : ad169 = ad172 := (by injection e172)
     replace hx172_0 := zx HB hx172_0
     replace hx172_1 := zx HB hx172_1
     replace hx172_2 := zx HB hx172_2
     replace hx172_3 := zx HB hx172_3
     replace hx172_4 := zx HB hx172_4
     replace hx172_5 := zx HB hx172_5
     replace hx172_6 := zx HB hx172_6
     replace p172 := eq_true p172
     replace q172 := eq_true q172
     refine start_ (n := 26) (S := fun w' => w'.cell? ⟨gb165, 0, none⟩ = some (.int .i64 a0_0) ∧ w'.cell? ⟨gb165, 1, none⟩ = some (.int .i64 a0_1) ∧ w'.cell? ⟨gb165, 2, none⟩ = some (.slice (some ad169) l0_2.length c0_2) ∧ w'.cell? ⟨gb165, 3, none⟩ = some (.int .i64 a0_3) ∧ w'.cell? ⟨gb165, 4, none⟩ = some (.int .i64 a0_4) ∧ w'.cell? (ad169.add ((x3_2).toNat * 7)) = some (.int .i64 ((rd_T88 l0_2 x3_2).f0)) ∧ w'.cell? ⟨(ad169.add ((x3_2).toNat * 7)).block, (ad169.add ((x3_2).toNat * 7)).off + 1, none⟩ = some (.int .i64 ((rd_T88 l0_2 x3_2).f1)) ∧ w'.cell? ⟨(ad169.add ((x3_2).toNat * 7)).block, (ad169.add ((x3_2).toNat * 7)).off + 2, none⟩ = some (.int .i64 ((rd_T88 l0_2 x3_2).f2)) ∧ w'.cell? ⟨(ad169.add ((x3_2).toNat * 7)).block, (ad169.add ((x3_2).toNat * 7)).off + 3, none⟩ = some (.int .i64 ((rd_T88 l0_2 x3_2).f3)) ∧ w'.cell? ⟨(ad169.add ((x3_2).toNat * 7)).block, (ad169.add ((x3_2).toNat * 7)).off + 4, none⟩ = some (.int .i64 ((rd_T88 l0_2 x3_2).f4)) ∧ w'.cell? ⟨(ad169.add ((x3_2).toNat * 7)).block, (ad169.add ((x3_2).toNat * 7)).off + 5, none⟩ = some (.int .i64 ((rd_T88 l0_2 x3_2).f5)) ∧ w'.cell? ⟨(ad169.add ((x3_2).toNat * 7)).block, (ad169.add ((x3_2).toNat * 7)).off + 6, none⟩ = some (.bool ((rd_T88 l0_2 x3_2).f6)) ∧ w'.cell? (ad169.add (((ji27)).toNat * 7)) = some (.int .i64 ((rd_T88 l0_2 (ji27)).f0)) ∧ w'.cell? ⟨(ad169.add (((ji27)).toNat * 7)).block, (ad169.add (((ji27)).toNat * 7)).off + 1, none⟩ = some (.int .i64 ((rd_T88 l0_2 (ji27)).f1)) ∧ w'.cell? ⟨(ad169.add (((ji27)).toNat * 7)).block, (ad169.add (((ji27)).toNat * 7)).off + 2, none⟩ = some (.int .i64 ((rd_T88 l0_2 (ji27)).f2)) ∧ w'.cell? ⟨(ad169.add (((ji27)).toNat * 7)).block, (ad169.add (((ji27)).toNat * 7)).off + 3, none⟩ = some (.int .i64 ((rd_T88 l0_2 (ji27)).f3)) ∧ w'.cell? ⟨(ad169.add (((ji27)).toNat * 7)).block, (ad169.add (((ji27)).toNat * 7)).off + 4, none⟩ = some (.int .i64 ((rd_T88 l0_2 (ji27)).f4)) ∧ w'.cell? ⟨(ad169.add (((ji27)).toNat * 7)).block, (ad169.add (((ji27)).toNat * 7)).off + 5, none⟩ = some (.int .i64 ((rd_T88 l0_2 (ji27)).f5)) ∧ w'.cell? ⟨(ad169.add (((ji27)).toNat * 7)).block, (ad169.add (((ji27)).toNat * 7)).off + 6, none⟩ = some (.bool ((rd_T88 l0_2 (ji27)).f6)) ∧ w'.cell? (ad169.add ((x3_2).toNat * 7)) = some (.int .i64 ((rd_T88 l0_2 x3_2).f0)) ∧ w'.cell? ⟨(ad169.add ((x3_2).toNat * 7)).block, (ad169.add ((x3_2).toNat * 7)).off + 1, none⟩ = some (.int .i64 ((rd_T88 l0_2 x3_2).f1)) ∧ w'.cell? ⟨(ad169.add ((x3_2).toNat * 7)).block, (ad169.add ((x3_2).toNat * 7)).off + 2, none⟩ = some (.int .i64 ((rd_T88 l0_2 x3_2).f2)) ∧ w'.cell? ⟨(ad169.add ((x3_2).toNat * 7)).block, (ad169.add ((x3_2).toNat * 7)).off + 3, none⟩ = some (.int .i64 ((rd_T88 l0_2 x3_2).f3)) ∧ w'.cell? ⟨(ad169.add ((x3_2).toNat * 7)).block, (ad169.add ((x3_2).toNat * 7)).off + 4, none⟩ = some (.int .i64 ((rd_T88 l0_2 x3_2).f4)) ∧ w'.cell? ⟨(ad169.add ((x3_2).toNat * 7)).block, (ad169.add ((x3_2).toNat * 7)).off + 5, none⟩ = some (.int .i64 ((rd_T88 l0_2 x3_2).f5)) ∧ w'.cell? ⟨(ad169.add ((x3_2).toNat * 7)).block, (ad169.add ((x3_2).toNat * 7)).off + 6, none⟩ = some (.bool ((rd_T88 l0_2 x3_2).f6))) (ds := []) #[false, false, false, false, false, false, false, false, false, false, false, false, false, false, false, false, false, false, false, false, false, false, false, false, false, false] (by kernel_rfl) rfl rfl ⟨(blk_cell BK165.out 0).trans rfl, (blk_cell BK165.out 1).trans rfl, (blk_cell BK165.out 2).trans rfl, (blk_cell BK165.out 3).trans rfl, (blk_cell BK165.out 4).trans rfl, (zw HB hw169_0), (zw HB hw169_1), (zw HB hw169_2), (zw HB hw169_3), (zw HB hw169_4), (zw HB hw169_5), (zw HB hw169_6), (zw HB hw171_0), (zw HB hw171_1), (zw HB hw171_2), (zw HB hw171_3), (zw HB hw171_4), (zw HB hw171_5), (zw HB hw171_6), (zw HB hw172_0), (zw HB hw172_1), (zw HB hw172_2), (zw HB hw172_3), (zw HB hw172_4), (zw HB hw172_5), (zw HB hw172_6)⟩ (fun hHeld => ?_); refine with_tabW spec_FlyPathOk.tab6 spec_FlyPathOk.bits6 (fun HT_ HW_ => ?_)
     generalize wr.drew = w33 at BK165 HB hx169_0 hx169_1 hx169_2 hx169_3 hx169_4 hx169_5 hx169_6 hx171_0 hx171_1 hx171_2 hx171_3 hx171_4 hx171_5 hx171_6 hx172_0 hx172_1 hx172_2 hx172_3 hx172_4 hx172_5 hx172_6 hHeld ⊢
     refine pure_ (i := 0) (N := some 35) (v := ?_) (a' := ?_) #[true, false, false, false, false, false, false, false, false, false, false, false, false, false, false, false, false, false, false, false, false, false, false, false, false, false] rfl rfl (any_of HT_.out (by kernel_rfl)) (fun _ _ _ h => h) (Or.inl ⟨by rfl, ?_⟩) ?_ ?_; rotate_left; exact zy; rotate_left; exact zput
     refine pure_ (i := 2) (N := some 37) (v := ?_) (a' := ?_) #[true, false, true, false, false, false, false, false, false, false, false, false, false, false, false, false, false, false, false, false, false, false, false, false, false, false] rfl rfl (any_of HT_.out (by kernel_rfl)) (fun _ _ _ h => h) (Or.inl ⟨by rfl, ?_⟩) ?_ ?_; rotate_left; exact zy; rotate_left; exact zput
     refine take_ (i := 1) (N := some 36) (v := ?_) (a' := ?_) #[true, true, true, false, false, false, false, false, false, false, false, false, false, false, false, false, false, false, false, false, false, false, false, false, false, false] rfl rfl (take_ofW HT_.out HW_.out (by kernel_rfl)) (fun _ _ _ h => h) (Or.inl ⟨by rfl, ?_⟩) hHeld ?_ ?_; rotate_left; exact zt26; rotate_left; exact zput
     refine pure_ (i := 3) (N := some 38) (v := ?_) (a' := ?_) #[true, true, true, true, false, false, false, false, false, false, false, false, false, false, false, false, false, false, false, false, false, false, false, false, false, false] rfl rfl (any_of HT_.out (by kernel_rfl)) (fun _ _ _ h => h) (Or.inl ⟨by rfl, ?_⟩) ?_ ?_; rotate_left; exact zy; rotate_left; exact zput
     refine take_ (i := 4) (N := some 39) (v := ?_) (a' := ?_) #[true, true, true, true, true, false, false, false, false, false, false, false, false, false, false, false, false, false, false, false, false, false, false, false, false, false] rfl rfl (take_ofW HT_.out HW_.out (by kernel_rfl)) (fun _ _ _ h => h) (Or.inl ⟨by rfl, ?_⟩) hHeld ?_ ?_; rotate_left; exact zt26; rotate_left; exact zput
     refine one_ (i := 5) (N := some 40) #[true, true, true, true, true, true, false, false, false, false, false, false, false, false, false, false, false, false, false, false, false, false, false, false, false, false] rfl rfl (one_of HT_.out (by kernel_rfl)) (by decide) (fun K hK => ?_)
     refine goes_ Try.func75 (by kernel_rfl) rfl #[.agg #[.int .i64 ((rd_T88 l0_2 x3_2).f0), .int .i64 ((rd_T88 l0_2 x3_2).f1), .int .i64 ((rd_T88 l0_2 x3_2).f2), .int .i64 ((rd_T88 l0_2 x3_2).f3), .int .i64 ((rd_T88 l0_2 x3_2).f4), .int .i64 ((rd_T88 l0_2 x3_2).f5), .bool ((rd_T88 l0_2 x3_2).f6)]] (by rfl) rfl rfl zl ?_
     with_reducible refine (spec_l22StepOk.calls ((rd_T88 l0_2 x3_2).f0) ((rd_T88 l0_2 x3_2).f1) ((rd_T88 l0_2 x3_2).f2) ((rd_T88 l0_2 x3_2).f3) ((rd_T88 l0_2 x3_2).f4) ((rd_T88 l0_2 x3_2).f5) ((rd_T88 l0_2 x3_2).f6) true _ A24.out).mono ?_
     rintro e w34 ⟨rfl, hb⟩
     refine ⟨_, rfl, ?_⟩
     have n0_ := zb BK165 hb
     have n1_ := Aside0.mk (below_step (zs1 HB GE165) hb)
     clear BK165 HB
     revert n0_ n1_
     intro BK165 HB
     (try clear hb)
     (try clear hb2)
     (try clear hk)
     (try clear hi)
     refine hK.out _ _ ⟨(blk_cell BK165.out 0).trans rfl, (blk_cell BK165.out 1).trans rfl, (blk_cell BK165.out 2).trans rfl, (blk_cell BK165.out 3).trans rfl, (blk_cell BK165.out 4).trans rfl, (zw HB hw169_0), (zw HB hw169_1), (zw HB hw169_2), (zw HB hw169_3), (zw HB hw169_4), (zw HB hw169_5), (zw HB hw169_6), (zw HB hw171_0), (zw HB hw171_1), (zw HB hw171_2), (zw HB hw171_3), (zw HB hw171_4), (zw HB hw171_5), (zw HB hw171_6), (zw HB hw172_0), (zw HB hw172_1), (zw HB hw172_2), (zw HB hw172_3), (zw HB hw172_4), (zw HB hw172_5), (zw HB hw172_6)⟩ (fun hHeld => ?_)
     clear hK K
     refine norm_ (a' := ?_) ?_ ?_
     rotate_left
     ·show Act.put _ (some 40) _ = _
      simp only [Act.put, List.setIfInBounds_toArray, List.set_cons_zero, List.set_cons_succ, i64_w, i32_w]
      rfl
     refine pure_ (i := 6) (N := some 41) (v := ?_) (a' := ?_) #[true, true, true, true, true, true, true, false, false, false, false, false, false, false, false, false, false, false, false, false, false, false, false, false, false, false] rfl rfl (any_of HT_.out (by kernel_rfl)) (fun _ _ _ h => h) (Or.inl ⟨by rfl, ?_⟩) ?_ ?_; rotate_left; exact zy; rotate_left; exact zput
     refine pure_ (i := 7) (N := some 42) (v := ?_) (a' := ?_) #[true, true, true, true, true, true, true, true, false, false, false, false, false, false, false, false, false, false, false, false, false, false, false, false, false, false] rfl rfl (any_of HT_.out (by kernel_rfl)) (fun _ _ _ h => h) (Or.inl ⟨by rfl, ?_⟩) ?_ ?_; rotate_left; exact zy; rotate_left; exact zput
     refine pure_ (i := 8) (N := some 43) (v := ?_) (a' := ?_) #[true, true, true, true, true, true, true, true, true, false, false, false, false, false, false, false, false, false, false, false, false, false, false, false, false, false] rfl rfl (any_of HT_.out (by kernel_rfl)) (fun _ _ _ h => h) (Or.inl ⟨by rfl, ?_⟩) ?_ ?_; rotate_left; exact zy; rotate_left; exact zput
     refine pure_ (i := 9) (N := some 44) (v := ?_) (a' := ?_) #[true, true, true, true, true, true, true, true, true, true, false, false, false, false, false, false, false, false, false, false, false, false, false, false, false, false] rfl rfl (any_of HT_.out (by kernel_rfl)) (fun _ _ _ h => h) (Or.inl ⟨by rfl, ?_⟩) ?_ ?_; rotate_left; exact zy; rotate_left; exact zput
     refine pure_ (i := 10) (N := some 45) (v := ?_) (a' := ?_) #[true, true, true, true, true, true, true, true, true, true, true, false, false, false, false, false, false, false, false, false, false, false, false, false, false, false] rfl rfl (any_of HT_.out (by kernel_rfl)) (fun _ _ _ h => h) (Or.inl ⟨by rfl, ?_⟩) ?_ ?_; rotate_left; exact zy; rotate_left; exact zput
     refine pure_ (i := 11) (N := some 46) (v := ?_) (a' := ?_) #[true, true, true, true, true, true, true, true, true, true, true, true, false, false, false, false, false, false, false, false, false, false, false, false, false, false] rfl rfl (any_of HT_.out (by kernel_rfl)) (fun _ _ _ h => h) (Or.inl ⟨by rfl, ?_⟩) ?_ ?_; rotate_left; exact zy; rotate_left; exact zput
     refine pure_ (i := 13) (N := some 48) (v := ?_) (a' := ?_) #[true, true, true, true, true, true, true, true, true, true, true, true, false, true, false, false, false, false, false, false, false, false, false, false, false, false] rfl rfl (any_of HT_.out (by kernel_rfl)) (fun _ _ _ h => h) (Or.inl ⟨by rfl, ?_⟩) ?_ ?_; rotate_left; exact zy; rotate_left; exact zput
     refine pure_ (i := 14) (N := some 49) (v := ?_) (a' := ?_) #[true, true, true, true, true, true, true, true, true, true, true, true, false, true, true, false, false, false, false, false, false, false, false, false, false, false] rfl rfl (any_of HT_.out (by kernel_rfl)) (fun _ _ _ h => h) (Or.inl ⟨by rfl, ?_⟩) ?_ ?_; rotate_left; exact zy; rotate_left; exact zput
     refine pure_ (i := 17) (N := some 52) (v := ?_) (a' := ?_) #[true, true, true, true, true, true, true, true, true, true, true, true, false, true, true, false, false, true, false, false, false, false, false, false, false, false] rfl rfl (any_of HT_.out (by kernel_rfl)) (fun _ _ _ h => h) (Or.inl ⟨by rfl, ?_⟩) ?_ ?_; rotate_left; exact zy; rotate_left; exact zput
     refine pure_ (i := 19) (N := some 54) (v := ?_) (a' := ?_) #[true, true, true, true, true, true, true, true, true, true, true, true, false, true, true, false, false, true, false, true, false, false, false, false, false, false] rfl rfl (any_of HT_.out (by kernel_rfl)) (fun _ _ _ h => h) (Or.inl ⟨by rfl, ?_⟩) ?_ ?_; rotate_left; exact zy; rotate_left; exact zput
     refine take_ (i := 12) (N := some 47) (v := ?_) (a' := ?_) #[true, true, true, true, true, true, true, true, true, true, true, true, true, true, true, false, false, true, false, true, false, false, false, false, false, false] rfl rfl (take_ofW HT_.out HW_.out (by kernel_rfl)) (fun _ _ _ h => h) (Or.inl ⟨by rfl, ?_⟩) hHeld ?_ ?_; rotate_left; exact zt26; rotate_left; exact zput
     refine pure_ (i := 15) (N := some 50) (v := ?_) (a' := ?_) #[true, true, true, true, true, true, true, true, true, true, true, true, true, true, true, true, false, true, false, true, false, false, false, false, false, false] rfl rfl (any_of HT_.out (by kernel_rfl)) (fun _ _ _ h => h) (Or.inl ⟨by rfl, ?_⟩) ?_ ?_; rotate_left; exact zy; rotate_left; exact zput
     refine take_ (i := 16) (N := some 51) (v := ?_) (a' := ?_) #[true, true, true, true, true, true, true, true, true, true, true, true, true, true, true, true, true, true, false, true, false, false, false, false, false, false] rfl rfl (take_ofW HT_.out HW_.out (by kernel_rfl)) (fun _ _ _ h => h) (Or.inl ⟨by rfl, ?_⟩) hHeld ?_ ?_; rotate_left; exact zt26; rotate_left; exact zput
     refine take_ (i := 18) (N := some 53) (v := ?_) (a' := ?_) #[true, true, true, true, true, true, true, true, true, true, true, true, true, true, true, true, true, true, true, true, false, false, false, false, false, false] rfl rfl (take_ofW HT_.out HW_.out (by kernel_rfl)) (fun _ _ _ h => h) (Or.inl ⟨by rfl, ?_⟩) hHeld ?_ ?_; rotate_left; exact zt26; rotate_left; exact zput
     refine pure_ (i := 20) (N := some 55) (v := ?_) (a' := ?_) #[true, true, true, true, true, true, true, true, true, true, true, true, true, true, true, true, true, true, true, true, true, false, false, false, false, false] rfl rfl (any_of HT_.out (by kernel_rfl)) (fun _ _ _ h => h) (Or.inl ⟨by rfl, ?_⟩) ?_ ?_; rotate_left; exact zy; rotate_left; exact zput
     refine take_ (i := 21) (N := some 56) (v := ?_) (a' := ?_) #[true, true, true, true, true, true, true, true, true, true, true, true, true, true, true, true, true, true, true, true, true, true, false, false, false, false] rfl rfl (take_ofW HT_.out HW_.out (by kernel_rfl)) (fun _ _ _ h => h) (Or.inl ⟨by rfl, ?_⟩) hHeld ?_ ?_; rotate_left; exact zt26; rotate_left; exact zput
     refine one_ (i := 22) (N := some 57) #[true, true, true, true, true, true, true, true, true, true, true, true, true, true, true, true, true, true, true, true, true, true, true, false, false, false] rfl rfl (one_of HT_.out (by kernel_rfl)) (by decide) (fun K hK => ?_)
     refine goes_ Try.func76 (by kernel_rfl) rfl #[.agg #[.int .i64 ((rd_T88 l0_2 (ji27)).f0), .int .i64 ((rd_T88 l0_2 (ji27)).f1), .int .i64 ((rd_T88 l0_2 (ji27)).f2), .int .i64 ((rd_T88 l0_2 (ji27)).f3), .int .i64 ((rd_T88 l0_2 (ji27)).f4), .int .i64 ((rd_T88 l0_2 (ji27)).f5), .bool ((rd_T88 l0_2 (ji27)).f6)], .agg #[.int .i64 ((rd_T88 l0_2 x3_2).f0), .int .i64 ((rd_T88 l0_2 x3_2).f1), .int .i64 ((rd_T88 l0_2 x3_2).f2), .int .i64 ((rd_T88 l0_2 x3_2).f3), .int .i64 ((rd_T88 l0_2 x3_2).f4), .int .i64 ((rd_T88 l0_2 x3_2).f5), .bool ((rd_T88 l0_2 x3_2).f6)]] (by rfl) rfl rfl (by (try simp only [List.map_toArray, List.map_cons, List.map_nil]); first | done | (simp only [hji27]; rfl) | rfl | (simp only [List.length_drop, List.length_take]; rfl)) ?_
     with_reducible refine (spec_l22Next.calls ((rd_T88 l0_2 (ji27)).f0) ((rd_T88 l0_2 (ji27)).f1) ((rd_T88 l0_2 (ji27)).f2) ((rd_T88 l0_2 (ji27)).f3) ((rd_T88 l0_2 (ji27)).f4) ((rd_T88 l0_2 (ji27)).f5) ((rd_T88 l0_2 (ji27)).f6) ((rd_T88 l0_2 x3_2).f0) ((rd_T88 l0_2 x3_2).f1) ((rd_T88 l0_2 x3_2).f2) ((rd_T88 l0_2 x3_2).f3) ((rd_T88 l0_2 x3_2).f4) ((rd_T88 l0_2 x3_2).f5) ((rd_T88 l0_2 x3_2).f6) true _ A30.out).mono ?_
     rintro e w35 ⟨rfl, hb⟩
     refine ⟨_, rfl, ?_⟩
     have n0_ := zb BK165 hb
     have n1_ := Aside0.mk (below_step (zs1 HB GE165) hb)
     clear BK165 HB
     revert n0_ n1_
     intro BK165 HB
     (try clear hb)
     (try clear hb2)
     (try clear hk)
     (try clear hi)
     refine hK.out _ _ ⟨(blk_cell BK165.out 0).trans rfl, (blk_cell BK165.out 1).trans rfl, (blk_cell BK165.out 2).trans rfl, (blk_cell BK165.out 3).trans rfl, (blk_cell BK165.out 4).trans rfl, (zw HB hw169_0), (zw HB hw169_1), (zw HB hw169_2), (zw HB hw169_3), (zw HB hw169_4), (zw HB hw169_5), (zw HB hw169_6), (zw HB hw171_0), (zw HB hw171_1), (zw HB hw171_2), (zw HB hw171_3), (zw HB hw171_4), (zw HB hw171_5), (zw HB hw171_6), (zw HB hw172_0), (zw HB hw172_1), (zw HB hw172_2), (zw HB hw172_3), (zw HB hw172_4), (zw HB hw172_5), (zw HB hw172_6)⟩ (fun hHeld => ?_)
     clear hK K
     refine norm_ (a' := ?_) ?_ ?_
     rotate_left
     ·show Act.put _ (some 57) _ = _
      simp only [Act.put, List.setIfInBounds_toArray, List.set_cons_zero, List.set_cons_succ, i64_w, i32_w]
      rfl
     refine pure_ (i := 23) (N := some 58) (v := ?_) (a' := ?_) #[true, true, true, true, true, true, true, true, true, true, true, true, true, true, true, true, true, true, true, true, true, true, true, true, false, false] rfl rfl (any_of HT_.out (by kernel_rfl)) (fun _ _ _ h => h) (Or.inl ⟨by rfl, ?_⟩) ?_ ?_; rotate_left; exact zy; rotate_left; exact zput
     refine pure_ (i := 24) (N := some 59) (v := ?_) (a' := ?_) #[true, true, true, true, true, true, true, true, true, true, true, true, true, true, true, true, true, true, true, true, true, true, true, true, true, false] rfl rfl (any_of HT_.out (by kernel_rfl)) (fun _ _ _ h => h) (Or.inl ⟨by rfl, ?_⟩) ?_ ?_; rotate_left; exact zy; rotate_left; exact zput
     refine pure_ (i := 25) (N := some 60) (v := ?_) (a' := ?_) #[true, true, true, true, true, true, true, true, true, true, true, true, true, true, true, true, true, true, true, true, true, true, true, true, true, true] rfl rfl (any_of HT_.out (by kernel_rfl)) (fun _ _ _ h => h) (Or.inl ⟨by rfl, ?_⟩) ?_ ?_; rotate_left; exact zy; rotate_left; exact zput
     refine done_ (done_of HT_.out (by kernel_rfl)) ?_
     try go_wp2
     go_roundg k2
     case measure => have := HJ1.out; have := HK2.out; omega
     case rel => exact ⟨(wrap64 (x3_2 + 1)), zi, H', ⟨by have := HJ1.out; have := HK2.out; omega⟩, ⟨zh BK165⟩, ⟨zs1 HB GE165⟩⟩
end Go.Proofs.Ytidenmcoilmbcaa.QFnExactFlyLast
