/- The walk of what the law FnExactFlyTube reaches: laid by a program of this session (ownprint.py). -/
import Derived.Test.YtbmplfpnhjhoiaaQFnExactFlyTubex0
import Derived.Test.YtbmplfpnhjhoiaaQFnExactFlyTubex2
import Derived.Test.YtbmplfpnhjhoiaaQFnExactFlyTubex3
namespace Go.Proofs.Ytbmplfpnhjhoiaa.QFnExactFlyTube
open Go.RowKit Go.Proofs.YtbmplfpnhjhoiaaW.PrintWords Go.Proofs.YtbmplfpnhjhoiaaW.PrintLast Go.Proofs.YtbmplfpnhjhoiaaW.PrintMore Go.Proofs.Ytbmplfpnhjhoiaa.Z
attribute [local go_sem] max2_int min2_int max_two min_two max_three min_three max_four min_four zdn   -- for this text's walks alone
set_option linter.unusedVariables false
set_option linter.unusedSimpArgs false
mutual
def spec_FlyPathOk.j0 : Nat → Bool → Int → Int → List (S132) → Int → Int → Option (Bool)
 | 0, _, _, _, _, _, _ => none
 | k + 1, x27, x162000, x162001, x162002, x162003, x162004 => if x27 = true then (some false) else (spec_FlyPathOk.l0 k 0 x162000 x162001 x162002 x162003 x162004)
def spec_FlyPathOk.l0 : Nat → Int → Int → Int → List (S132) → Int → Int → Option (Bool)
 | 0, _, _, _, _, _, _ => none
 | k + 1, x3, x162000, x162001, x162002, x162003, x162004 => if x3 < (x162002.length : Int) then (if 0 ≤ x3 then ((spec_l22StepOk.f ((rd_T132 x162002 x3).f0) ((rd_T132 x162002 x3).f1) ((rd_T132 x162002 x3).f2) ((rd_T132 x162002 x3).f3) ((rd_T132 x162002 x3).f4) ((rd_T132 x162002 x3).f5) ((rd_T132 x162002 x3).f6)).bind fun t166 => (if t166 = true then (if x3 > 0 then (if 0 ≤ (wrap64 (x3 - 1)) then (if (wrap64 (x3 - 1)) < (x162002.length : Int) then ((spec_l22Next.f ((rd_T132 x162002 (wrap64 (x3 - 1))).f0) ((rd_T132 x162002 (wrap64 (x3 - 1))).f1) ((rd_T132 x162002 (wrap64 (x3 - 1))).f2) ((rd_T132 x162002 (wrap64 (x3 - 1))).f3) ((rd_T132 x162002 (wrap64 (x3 - 1))).f4) ((rd_T132 x162002 (wrap64 (x3 - 1))).f5) ((rd_T132 x162002 (wrap64 (x3 - 1))).f6) ((rd_T132 x162002 x3).f0) ((rd_T132 x162002 x3).f1) ((rd_T132 x162002 x3).f2) ((rd_T132 x162002 x3).f3) ((rd_T132 x162002 x3).f4) ((rd_T132 x162002 x3).f5) ((rd_T132 x162002 x3).f6)).bind fun t169 => (if t169 = true then (spec_FlyPathOk.l0 k (wrap64 (x3 + 1)) x162000 x162001 x162002 x162003 x162004) else (some false))) else (none)) else (none)) else (spec_FlyPathOk.l0 k (wrap64 (x3 + 1)) x162000 x162001 x162002 x162003 x162004)) else (some false))) else (none)) else (some true)
end
def spec_FlyPathOk.f (k : Nat) (a0_0 : Int) (a0_1 : Int) (l0_2 : List (S132)) (a0_3 : Int) (a0_4 : Int) : Option (Bool) := (spec_FlyKindOk.f a0_0 a0_1).bind fun t162 => (if t162 = true then ((spec_l21In.f (l0_2.length : Int) 1 40).bind fun t163 => (if t163 = true then ((spec_l21In.f a0_3 0 a0_4).bind fun t164 => (if t164 = true then (spec_FlyPathOk.j0 k (decide (a0_4 > 10000)) a0_0 a0_1 l0_2 a0_3 a0_4) else (spec_FlyPathOk.j0 k true a0_0 a0_1 l0_2 a0_3 a0_4))) else (spec_FlyPathOk.j0 k true a0_0 a0_1 l0_2 a0_3 a0_4))) else (spec_FlyPathOk.j0 k true a0_0 a0_1 l0_2 a0_3 a0_4))
def spec_FlyPathOk.T6 : Bool × List (List Nat × List Nat) := (true, [([], []), ([0], [0]), ([], []), ([1, 2], [1, 2]), ([3], [3]), ([4], [4]), ([5], [5]), ([6, 5], [6]), ([7], [7]), ([8, 7], [7, 8]), ([9, 7, 7], [7, 9]), ([10], [10]), ([11, 10], [10, 11]), ([10], [10]), ([13, 10], [10, 13]), ([12, 14, 10], [10, 12, 14]), ([15, 10], [10, 15]), ([10], [10]), ([17, 10], [10, 17]), ([10], [10]), ([18, 19, 10], [10, 18, 19]), ([20, 10], [10, 20]), ([16, 21, 10, 10], [10, 16, 21]), ([22, 10], [10, 22]), ([10, 23, 7], [7, 10, 23]), ([7, 24], [7, 24])])
def spec_FlyPathOk.B6 : List Nat := [0, 1, 0, 7, 15, 31, 63, 127, 255, 511, 1023, 2047, 4095, 2047, 10239, 32767, 65535, 2047, 133119, 2047, 919551, 1968127, 4194303, 8388607, 16777215, 33554431]
theorem spec_FlyPathOk.tab6 : rtab .any (opsOf Try.f75 6) = spec_FlyPathOk.T6 := by kernel_rfl
theorem spec_FlyPathOk.bits6 : waitsOk spec_FlyPathOk.T6.2 spec_FlyPathOk.B6 = true := by kernel_rfl
set_option maxHeartbeats 8000000 in
set_option maxRecDepth 100000 in
theorem spec_FlyPathOk.calls (k : Nat) (a0_0 : Int) (a0_1 : Int) (A0_2 : Option Addr) (c0_2 : Nat) (l0_2 : List (S132)) (a0_3 : Int) (a0_4 : Int) (r : Bool) (w : World) (hr0_2 : Kd.C k132 w A0_2 l0_2.length l0_2) (hc0_2 : l0_2.length ≤ c0_2) (h : spec_FlyPathOk.f k a0_0 a0_1 l0_2 a0_3 a0_4 = some r) :
 Calls Try.prog 75 #[.agg #[.int .i64 a0_0, .int .i64 a0_1, .slice A0_2 l0_2.length c0_2, .int .i64 a0_3, .int .i64 a0_4]] w fun e w' => e = .returned (.bool r) ∧ Below w.heap.size w w' := by
 have hu68 := Try.underlying68
 have hu44 := Try.underlying44
 have hu132 := Try.underlying132
 have HR0_2 := zA hr0_2
 have HC0_2 := zA hc0_2
 clear hr0_2 hc0_2
 have HB := zA (Below.refl w.heap.size w)
 have H : ((spec_FlyKindOk.f a0_0 a0_1).bind fun t162 => (if t162 = true then ((spec_l21In.f (l0_2.length : Int) 1 40).bind fun t163 => (if t163 = true then ((spec_l21In.f a0_3 0 a0_4).bind fun t164 => (if t164 = true then (spec_FlyPathOk.j0 k (decide (a0_4 > 10000)) a0_0 a0_1 l0_2 a0_3 a0_4) else (spec_FlyPathOk.j0 k true a0_0 a0_1 l0_2 a0_3 a0_4))) else (spec_FlyPathOk.j0 k true a0_0 a0_1 l0_2 a0_3 a0_4))) else (spec_FlyPathOk.j0 k true a0_0 a0_1 l0_2 a0_3 a0_4))) = some r := h
 clear h
 have HC2 := zA H
 clear H
 go_enter Try.func75, Try.ntmps75
 go_upto_region 1 with (first | ((with_reducible refine gate_dst (N := 1) rfl ?_); (try (refine gate_guard (by rfl) ?_; dsimp only)); refine box_event (by rfl) (N := 1) (by rfl) (cs := #[.int .i64 a0_0, .int .i64 a0_1, .slice A0_2 l0_2.length c0_2, .int .i64 a0_3, .int .i64 a0_4]) (t := 68) zg ?_; intro gb161 hg w3 hbox hb; have n0_ := zA (below_step (zs0 HB) hb); have n1_ := zA (hbox); have n2_ := zA ((by rw [hg]; exact (below_size (zs0 HB)) : w.heap.size ≤ gb161)); have n3_ := zA ((by rw [hg]; exact (below_size (zs0 HB)) : w.heap.size ≤ gb161)); clear HB; have HB := n0_; have BK161 := n1_; have GW161 := n2_; have GE161 := n3_; clear n0_ n1_ n2_ n3_; clear hb hbox hg))
 (try simp only [Act.put, List.setIfInBounds_toArray, List.set_cons_zero, List.set_cons_succ])
 go_cut [27] (fun v27 wc => ∃ (kq : Nat) (x27_1 : Bool), v27 = .bool x27_1 ∧ Aside0 (spec_FlyPathOk.j0 kq x27_1 a0_0 a0_1 l0_2 a0_3 a0_4 = some r) ∧ Aside0 (kq ≤ k) ∧ Aside0 (wc.heap[gb161]? = some (.cells #[.int .i64 a0_0, .int .i64 a0_1, (.slice A0_2 l0_2.length c0_2), .int .i64 a0_3, .int .i64 a0_4] 68 (0, 0))) ∧ Aside0 (Below w.heap.size w wc))
 case first =>
  have H := HC2.out
  clear HC2
  replace H := Option.bind_eq_some_iff.mp H
  obtain ⟨t162, A40, H⟩ := H
  replace H : (if t162 = true then ((spec_l21In.f (l0_2.length : Int) 1 40).bind fun t163 => (if t163 = true then ((spec_l21In.f a0_3 0 a0_4).bind fun t164 => (if t164 = true then (spec_FlyPathOk.j0 k (decide (a0_4 > 10000)) a0_0 a0_1 l0_2 a0_3 a0_4) else (spec_FlyPathOk.j0 k true a0_0 a0_1 l0_2 a0_3 a0_4))) else (spec_FlyPathOk.j0 k true a0_0 a0_1 l0_2 a0_3 a0_4))) else (spec_FlyPathOk.j0 k true a0_0 a0_1 l0_2 a0_3 a0_4)) = some r := H
  have A4 := zA A40
  clear A40
  by_cases c5 : t162 = true
  rotate_left
  ·replace c5 := Bool.eq_false_iff.mpr c5
   subst c5
   have H1 : (spec_FlyPathOk.j0 k true a0_0 a0_1 l0_2 a0_3 a0_4) = some r := by rw [if_neg (show ¬ (false = true) by decide)] at H; exact H
   clear H
   have H := H1
   clear H1
   have H' := zA H
   clear H
   obtain ⟨hcz19_0, hcz19_1, hcz19_2, hcz19_3, hcz19_4⟩ := zd5 BK161
   obtain ⟨hfz19_0, hfz19_1, hfz19_2, hfz19_3, hfz19_4⟩ := zn5 BK161
   go_wp2_with (first | ((with_reducible refine gate_callee (f := 137) rfl ?_); refine goesL_ (some 6) rfl rfl Try.func137 (by kernel_rfl) rfl #[.agg #[.int .i64 a0_0, .int .i64 a0_1]] rfl zl ?_; (with_reducible refine (spec_FlyKindOk.calls a0_0 a0_1 false _ A4.out).mono ?_); rintro e w20 ⟨rfl, hb⟩; refine ⟨_, rfl, ?_⟩; have n0_ := zb BK161 hb; have n1_ := zA (below_step (zs1 HB GE161) hb); clear BK161 HB; revert n0_ n1_; intro BK161 HB; (try clear hb); (try clear hb2); (try clear hk); (try clear hi)))
   go_meet
   case rel => exact ⟨_, (true), zi, H', ⟨by first | omega | exact Nat.le_refl _⟩, ⟨zh BK161⟩, ⟨zs1 HB GE161⟩⟩
  subst c5
  have H1 : ((spec_l21In.f (l0_2.length : Int) 1 40).bind fun t163 => (if t163 = true then ((spec_l21In.f a0_3 0 a0_4).bind fun t164 => (if t164 = true then (spec_FlyPathOk.j0 k (decide (a0_4 > 10000)) a0_0 a0_1 l0_2 a0_3 a0_4) else (spec_FlyPathOk.j0 k true a0_0 a0_1 l0_2 a0_3 a0_4))) else (spec_FlyPathOk.j0 k true a0_0 a0_1 l0_2 a0_3 a0_4))) = some r := by rw [if_pos rfl] at H; exact H
  clear H
  have H := H1
  clear H1
  replace H := Option.bind_eq_some_iff.mp H
  obtain ⟨t163, A60, H⟩ := H
  replace H : (if t163 = true then ((spec_l21In.f a0_3 0 a0_4).bind fun t164 => (if t164 = true then (spec_FlyPathOk.j0 k (decide (a0_4 > 10000)) a0_0 a0_1 l0_2 a0_3 a0_4) else (spec_FlyPathOk.j0 k true a0_0 a0_1 l0_2 a0_3 a0_4))) else (spec_FlyPathOk.j0 k true a0_0 a0_1 l0_2 a0_3 a0_4)) = some r := H
  have A6 := zA A60
  clear A60
  by_cases c7 : t163 = true
  rotate_left
  ·replace c7 := Bool.eq_false_iff.mpr c7
   subst c7
   have H1 : (spec_FlyPathOk.j0 k true a0_0 a0_1 l0_2 a0_3 a0_4) = some r := by rw [if_neg (show ¬ (false = true) by decide)] at H; exact H
   clear H
   have H := H1
   clear H1
   have H' := zA H
   clear H
   obtain ⟨hcz16_0, hcz16_1, hcz16_2, hcz16_3, hcz16_4⟩ := zd5 BK161
   obtain ⟨hfz16_0, hfz16_1, hfz16_2, hfz16_3, hfz16_4⟩ := zn5 BK161
   go_wp2_with (first | ((with_reducible refine gate_callee (f := 137) rfl ?_); refine goesL_ (some 6) rfl rfl Try.func137 (by kernel_rfl) rfl #[.agg #[.int .i64 a0_0, .int .i64 a0_1]] rfl zl ?_; (with_reducible refine (spec_FlyKindOk.calls a0_0 a0_1 true _ A4.out).mono ?_); rintro e w17 ⟨rfl, hb⟩; refine ⟨_, rfl, ?_⟩; have n0_ := zb BK161 hb; have n1_ := zA (below_step (zs1 HB GE161) hb); clear BK161 HB; revert n0_ n1_; intro BK161 HB; (try clear hb); (try clear hb2); (try clear hk); (try clear hi); obtain ⟨hcz18_0, hcz18_1, hcz18_2, hcz18_3, hcz18_4⟩ := zd5 BK161; obtain ⟨hfz18_0, hfz18_1, hfz18_2, hfz18_3, hfz18_4⟩ := zn5 BK161) | (go_at_call 127; (with_reducible refine (spec_l21In.calls (l0_2.length : Int) 1 40 false _ A6.out).mono ?_); rintro e w' ⟨rfl, ⟨nd, rfl⟩⟩))
   go_meet
   case rel => exact ⟨_, (true), zi, H', ⟨by first | omega | exact Nat.le_refl _⟩, ⟨zh BK161⟩, ⟨zs1 HB GE161⟩⟩
  subst c7
  have H1 : ((spec_l21In.f a0_3 0 a0_4).bind fun t164 => (if t164 = true then (spec_FlyPathOk.j0 k (decide (a0_4 > 10000)) a0_0 a0_1 l0_2 a0_3 a0_4) else (spec_FlyPathOk.j0 k true a0_0 a0_1 l0_2 a0_3 a0_4))) = some r := by rw [if_pos rfl] at H; exact H
  clear H
  have H := H1
  clear H1
  replace H := Option.bind_eq_some_iff.mp H
  obtain ⟨t164, A80, H⟩ := H
  replace H : (if t164 = true then (spec_FlyPathOk.j0 k (decide (a0_4 > 10000)) a0_0 a0_1 l0_2 a0_3 a0_4) else (spec_FlyPathOk.j0 k true a0_0 a0_1 l0_2 a0_3 a0_4)) = some r := H
  have A8 := zA A80
  clear A80
  by_cases c9 : t164 = true
  ·subst c9
   have H1 : (spec_FlyPathOk.j0 k (decide (a0_4 > 10000)) a0_0 a0_1 l0_2 a0_3 a0_4) = some r := by rw [if_pos rfl] at H; exact H
   clear H
   have H := H1
   clear H1
   have H' := zA H
   clear H
   obtain ⟨hcz10_0, hcz10_1, hcz10_2, hcz10_3, hcz10_4⟩ := zd5 BK161
   obtain ⟨hfz10_0, hfz10_1, hfz10_2, hfz10_3, hfz10_4⟩ := zn5 BK161
   go_wp2_with (first | ((with_reducible refine gate_callee (f := 137) rfl ?_); refine goesL_ (some 6) rfl rfl Try.func137 (by kernel_rfl) rfl #[.agg #[.int .i64 a0_0, .int .i64 a0_1]] rfl zl ?_; (with_reducible refine (spec_FlyKindOk.calls a0_0 a0_1 true _ A4.out).mono ?_); rintro e w11 ⟨rfl, hb⟩; refine ⟨_, rfl, ?_⟩; have n0_ := zb BK161 hb; have n1_ := zA (below_step (zs1 HB GE161) hb); clear BK161 HB; revert n0_ n1_; intro BK161 HB; (try clear hb); (try clear hb2); (try clear hk); (try clear hi); obtain ⟨hcz12_0, hcz12_1, hcz12_2, hcz12_3, hcz12_4⟩ := zd5 BK161; obtain ⟨hfz12_0, hfz12_1, hfz12_2, hfz12_3, hfz12_4⟩ := zn5 BK161) | (go_at_call 127; (with_reducible refine (spec_l21In.calls (l0_2.length : Int) 1 40 true _ A6.out).mono ?_); rintro e w' ⟨rfl, ⟨nd, rfl⟩⟩) | (go_at_call 127; (with_reducible refine (spec_l21In.calls a0_3 0 a0_4 true _ A8.out).mono ?_); rintro e w' ⟨rfl, ⟨nd, rfl⟩⟩))
   go_meet
   case rel => exact ⟨_, (decide (a0_4 > 10000)), zi, H', ⟨by first | omega | exact Nat.le_refl _⟩, ⟨zh BK161⟩, ⟨zs1 HB GE161⟩⟩
  replace c9 := Bool.eq_false_iff.mpr c9
  subst c9
  have H1 : (spec_FlyPathOk.j0 k true a0_0 a0_1 l0_2 a0_3 a0_4) = some r := by rw [if_neg (show ¬ (false = true) by decide)] at H; exact H
  clear H
  have H := H1
  clear H1
  have H' := zA H
  clear H
  obtain ⟨hcz13_0, hcz13_1, hcz13_2, hcz13_3, hcz13_4⟩ := zd5 BK161
  obtain ⟨hfz13_0, hfz13_1, hfz13_2, hfz13_3, hfz13_4⟩ := zn5 BK161
  go_wp2_with (first | ((with_reducible refine gate_callee (f := 137) rfl ?_); refine goesL_ (some 6) rfl rfl Try.func137 (by kernel_rfl) rfl #[.agg #[.int .i64 a0_0, .int .i64 a0_1]] rfl zl ?_; (with_reducible refine (spec_FlyKindOk.calls a0_0 a0_1 true _ A4.out).mono ?_); rintro e w14 ⟨rfl, hb⟩; refine ⟨_, rfl, ?_⟩; have n0_ := zb BK161 hb; have n1_ := zA (below_step (zs1 HB GE161) hb); clear BK161 HB; revert n0_ n1_; intro BK161 HB; (try clear hb); (try clear hb2); (try clear hk); (try clear hi); obtain ⟨hcz15_0, hcz15_1, hcz15_2, hcz15_3, hcz15_4⟩ := zd5 BK161; obtain ⟨hfz15_0, hfz15_1, hfz15_2, hfz15_3, hfz15_4⟩ := zn5 BK161) | (go_at_call 127; (with_reducible refine (spec_l21In.calls (l0_2.length : Int) 1 40 true _ A6.out).mono ?_); rintro e w' ⟨rfl, ⟨nd, rfl⟩⟩) | (go_at_call 127; (with_reducible refine (spec_l21In.calls a0_3 0 a0_4 false _ A8.out).mono ?_); rintro e w' ⟨rfl, ⟨nd, rfl⟩⟩))
  go_meet
  case rel => exact ⟨_, (true), zi, H', ⟨by first | omega | exact Nat.le_refl _⟩, ⟨zh BK161⟩, ⟨zs1 HB GE161⟩⟩
 case rest =>
  clear HC2
  try clear c1
  try clear p2
  try clear c5
  try clear c7
  try clear c9
  try clear c13
  try clear hcz10_0
  try clear hcz10_1
  try clear hcz10_2
  try clear hcz10_3
  try clear hcz10_4
  try clear hcz12_0
  try clear hcz12_1
  try clear hcz12_2
  try clear hcz12_3
  try clear hcz12_4
  try clear hcz13_0
  try clear hcz13_1
  try clear hcz13_2
  try clear hcz13_3
  try clear hcz13_4
  try clear hcz15_0
  try clear hcz15_1
  try clear hcz15_2
  try clear hcz15_3
  try clear hcz15_4
  try clear hcz16_0
  try clear hcz16_1
  try clear hcz16_2
  try clear hcz16_3
  try clear hcz16_4
  try clear hcz18_0
  try clear hcz18_1
  try clear hcz18_2
  try clear hcz18_3
  try clear hcz18_4
  try clear hcz19_0
  try clear hcz19_1
  try clear hcz19_2
  try clear hcz19_3
  try clear hcz19_4
  try clear hfz10_0
  try clear hfz10_1
  try clear hfz10_2
  try clear hfz10_3
  try clear hfz10_4
  try clear hfz12_0
  try clear hfz12_1
  try clear hfz12_2
  try clear hfz12_3
  try clear hfz12_4
  try clear hfz13_0
  try clear hfz13_1
  try clear hfz13_2
  try clear hfz13_3
  try clear hfz13_4
  try clear hfz15_0
  try clear hfz15_1
  try clear hfz15_2
  try clear hfz15_3
  try clear hfz15_4
  try clear hfz16_0
  try clear hfz16_1
  try clear hfz16_2
  try clear hfz16_3
  try clear hfz16_4
  try clear hfz18_0
  try clear hfz18_1
  try clear hfz18_2
  try clear hfz18_3
  try clear hfz18_4
  try clear hfz19_0
  try clear hfz19_1
  try clear hfz19_2
  try clear hfz19_3
  try clear hfz19_4
  obtain ⟨kq, x27_1, rfl, HA, HJ1, BK161, HB⟩ := hcut
  cases kq with
  | zero => exact absurd HA.out (by simp [spec_FlyPathOk.j0])
  | succ kj1 =>
   have H := HA.out
   clear HA
   simp only [spec_FlyPathOk.j0] at H
   by_cases c21 : x27_1 = true
   ·subst c21
    have H1 : (some false) = some r := by rw [if_pos rfl] at H; exact H
    clear H
    have H := H1
    clear H1
    obtain rfl := Option.some.inj H
    go_wp2
    go_ret
    exact ⟨ze, zs1 HB GE161⟩
   replace c21 := Bool.eq_false_iff.mpr c21
   subst c21
   have H1 : (spec_FlyPathOk.l0 kj1 0 a0_0 a0_1 l0_2 a0_3 a0_4) = some r := by rw [if_neg (show ¬ (false = true) by decide)] at H; exact H
   clear H
   have H := H1
   clear H1
   have H' := zA H
   clear H
   go_wp2
   go_loopg [3] kj1 (fun kq v3 w' => ∃ (x3_2 : Int), v3 = .int .i64 x3_2 ∧ Aside0 (spec_FlyPathOk.l0 kq x3_2 a0_0 a0_1 l0_2 a0_3 a0_4 = some r) ∧ Aside0 (kq ≤ kj1) ∧ Aside0 (w'.heap[gb161]? = some (.cells #[.int .i64 a0_0, .int .i64 a0_1, (.slice A0_2 l0_2.length c0_2), .int .i64 a0_3, .int .i64 a0_4] 68 (0, 0))) ∧ Aside0 (Below w.heap.size w w'))
   case atStart => exact ⟨(0), zi, H', ⟨Nat.le_refl _⟩, ⟨zh BK161⟩, ⟨zs1 HB GE161⟩⟩
   case round =>
    clear H'
    try clear c1
    try clear c2
    try clear p2
    try clear c5
    try clear c7
    try clear c9
    try clear c13
    try clear c21
    try clear hcz10_0
    try clear hcz10_1
    try clear hcz10_2
    try clear hcz10_3
    try clear hcz10_4
    try clear hcz12_0
    try clear hcz12_1
    try clear hcz12_2
    try clear hcz12_3
    try clear hcz12_4
    try clear hcz13_0
    try clear hcz13_1
    try clear hcz13_2
    try clear hcz13_3
    try clear hcz13_4
    try clear hcz15_0
    try clear hcz15_1
    try clear hcz15_2
    try clear hcz15_3
    try clear hcz15_4
    try clear hcz16_0
    try clear hcz16_1
    try clear hcz16_2
    try clear hcz16_3
    try clear hcz16_4
    try clear hcz18_0
    try clear hcz18_1
    try clear hcz18_2
    try clear hcz18_3
    try clear hcz18_4
    try clear hcz19_0
    try clear hcz19_1
    try clear hcz19_2
    try clear hcz19_3
    try clear hcz19_4
    try clear hfz10_0
    try clear hfz10_1
    try clear hfz10_2
    try clear hfz10_3
    try clear hfz10_4
    try clear hfz12_0
    try clear hfz12_1
    try clear hfz12_2
    try clear hfz12_3
    try clear hfz12_4
    try clear hfz13_0
    try clear hfz13_1
    try clear hfz13_2
    try clear hfz13_3
    try clear hfz13_4
    try clear hfz15_0
    try clear hfz15_1
    try clear hfz15_2
    try clear hfz15_3
    try clear hfz15_4
    try clear hfz16_0
    try clear hfz16_1
    try clear hfz16_2
    try clear hfz16_3
    try clear hfz16_4
    try clear hfz18_0
    try clear hfz18_1
    try clear hfz18_2
    try clear hfz18_3
    try clear hfz18_4
    try clear hfz19_0
    try clear hfz19_1
    try clear hfz19_2
    try clear hfz19_3
    try clear hfz19_4
    try clear p2
    obtain ⟨x3_2, rfl, HA, HK2, BK161, HB⟩ := hrel
    cases gk with
    | zero => exact absurd HA.out (by simp [spec_FlyPathOk.l0])
    | succ k2 =>
     have H := HA.out
     clear HA
     simp only [spec_FlyPathOk.l0] at H
     by_cases c22 : x3_2 < (l0_2.length : Int)
     rotate_left
     ·rw [if_neg c22] at H
      have c22b0 : decide (x3_2 < (l0_2.length : Int)) = false := decide_eq_false c22
      clear c22
      obtain rfl := Option.some.inj H
      obtain ⟨hcz46_0, hcz46_1, hcz46_2, hcz46_3, hcz46_4⟩ := zd5 BK161
      obtain ⟨hfz46_0, hfz46_1, hfz46_2, hfz46_3, hfz46_4⟩ := zn5 BK161
      go_wp2
      go_ret
      exact ⟨ze, zs1 HB GE161⟩
     rw [if_pos c22] at H
     have c22b0 : decide (x3_2 < (l0_2.length : Int)) = true := decide_eq_true c22
     clear c22
     by_cases c23 : 0 ≤ x3_2
     rotate_left
     ·rw [if_neg c23] at H
      exact absurd H (by simp)
     rw [if_pos c23] at H
     have c23b0 : decide (0 ≤ x3_2) = true := decide_eq_true c23
     clear c23
     replace H := Option.bind_eq_some_iff.mp H
     obtain ⟨t166, A240, H⟩ := H
     replace H : (if t166 = true then (if x3_2 > 0 then (if 0 ≤ (wrap64 (x3_2 - 1)) then (if (wrap64 (x3_2 - 1)) < (l0_2.length : Int) then ((spec_l22Next.f ((rd_T132 l0_2 (wrap64 (x3_2 - 1))).f0) ((rd_T132 l0_2 (wrap64 (x3_2 - 1))).f1) ((rd_T132 l0_2 (wrap64 (x3_2 - 1))).f2) ((rd_T132 l0_2 (wrap64 (x3_2 - 1))).f3) ((rd_T132 l0_2 (wrap64 (x3_2 - 1))).f4) ((rd_T132 l0_2 (wrap64 (x3_2 - 1))).f5) ((rd_T132 l0_2 (wrap64 (x3_2 - 1))).f6) ((rd_T132 l0_2 x3_2).f0) ((rd_T132 l0_2 x3_2).f1) ((rd_T132 l0_2 x3_2).f2) ((rd_T132 l0_2 x3_2).f3) ((rd_T132 l0_2 x3_2).f4) ((rd_T132 l0_2 x3_2).f5) ((rd_T132 l0_2 x3_2).f6)).bind fun t169 => (if t169 = true then (spec_FlyPathOk.l0 k2 (wrap64 (x3_2 + 1)) a0_0 a0_1 l0_2 a0_3 a0_4) else (some false))) else (none)) else (none)) else (spec_FlyPathOk.l0 k2 (wrap64 (x3_2 + 1)) a0_0 a0_1 l0_2 a0_3 a0_4)) else (some false)) = some r := H
     have A24 := zA A240
     clear A240
     by_cases c25 : t166 = true
     rotate_left
     ·replace c25 := Bool.eq_false_iff.mpr c25
      subst c25
      have H1 : (some false) = some r := by rw [if_neg (show ¬ (false = true) by decide)] at H; exact H
      clear H
      have H := H1
      clear H1
      obtain rfl := Option.some.inj H
      obtain ⟨hcz43_0, hcz43_1, hcz43_2, hcz43_3, hcz43_4⟩ := zd5 BK161
      obtain ⟨hfz43_0, hfz43_1, hfz43_2, hfz43_3, hfz43_4⟩ := zn5 BK161
      try go_wp2
      have n0_ := zA (blk_drew BK161.out)
      have n1_ := zA (below_drew1 HB.out)
      clear BK161 HB
      revert n0_ n1_
      intro BK161 HB
      have p165 : 0 ≤ (x3_2 : Int) := za
      have q165 : x3_2 < (l0_2.length : Int) := za
      obtain ⟨ad165, e165, hx165_0, hx165_1, hx165_2, hx165_3, hx165_4, hx165_5, hx165_6⟩ := at_T132 HR0_2.out x3_2 p165 q165
      have hw165_6 := hx165_6
      have hw165_5 := hx165_5
      have hw165_4 := hx165_4
      have hw165_3 := hx165_3
      have hw165_2 := hx165_2
      have hw165_1 := hx165_1
      have hw165_0 := hx165_0
      cases e165
      replace hx165_0 := zx HB hx165_0
      replace hx165_1 := zx HB hx165_1
      replace hx165_2 := zx HB hx165_2
      replace hx165_3 := zx HB hx165_3
      replace hx165_4 := zx HB hx165_4
      replace hx165_5 := zx HB hx165_5
      replace hx165_6 := zx HB hx165_6
      replace p165 := eq_true p165
      replace q165 := eq_true q165
      refine start_ (n := 26) (S := fun w' => w'.cell? ⟨gb161, 0, none⟩ = some (.int .i64 a0_0) ∧ w'.cell? ⟨gb161, 1, none⟩ = some (.int .i64 a0_1) ∧ w'.cell? ⟨gb161, 2, none⟩ = some (.slice (some ad165) l0_2.length c0_2) ∧ w'.cell? ⟨gb161, 3, none⟩ = some (.int .i64 a0_3) ∧ w'.cell? ⟨gb161, 4, none⟩ = some (.int .i64 a0_4) ∧ w'.cell? (ad165.add ((x3_2).toNat * 7)) = some (.int .i64 ((rd_T132 l0_2 x3_2).f0)) ∧ w'.cell? ⟨(ad165.add ((x3_2).toNat * 7)).block, (ad165.add ((x3_2).toNat * 7)).off + 1, none⟩ = some (.int .i64 ((rd_T132 l0_2 x3_2).f1)) ∧ w'.cell? ⟨(ad165.add ((x3_2).toNat * 7)).block, (ad165.add ((x3_2).toNat * 7)).off + 2, none⟩ = some (.int .i64 ((rd_T132 l0_2 x3_2).f2)) ∧ w'.cell? ⟨(ad165.add ((x3_2).toNat * 7)).block, (ad165.add ((x3_2).toNat * 7)).off + 3, none⟩ = some (.int .i64 ((rd_T132 l0_2 x3_2).f3)) ∧ w'.cell? ⟨(ad165.add ((x3_2).toNat * 7)).block, (ad165.add ((x3_2).toNat * 7)).off + 4, none⟩ = some (.int .i64 ((rd_T132 l0_2 x3_2).f4)) ∧ w'.cell? ⟨(ad165.add ((x3_2).toNat * 7)).block, (ad165.add ((x3_2).toNat * 7)).off + 5, none⟩ = some (.int .i64 ((rd_T132 l0_2 x3_2).f5)) ∧ w'.cell? ⟨(ad165.add ((x3_2).toNat * 7)).block, (ad165.add ((x3_2).toNat * 7)).off + 6, none⟩ = some (.bool ((rd_T132 l0_2 x3_2).f6))) (ds := []) #[F,F,F,F,F,F,F,F,F,F,F,F,F,F,F,F,F,F,F,F,F,F,F,F,F,F] (by kernel_rfl) rfl rfl ⟨(blk_cell BK161.out 0).trans rfl, (blk_cell BK161.out 1).trans rfl, (blk_cell BK161.out 2).trans rfl, (blk_cell BK161.out 3).trans rfl, (blk_cell BK161.out 4).trans rfl, (zw HB hw165_0), (zw HB hw165_1), (zw HB hw165_2), (zw HB hw165_3), (zw HB hw165_4), (zw HB hw165_5), (zw HB hw165_6)⟩ (fun hHeld => ?_); refine with_tabW spec_FlyPathOk.tab6 spec_FlyPathOk.bits6 (fun HT_ HW_ => ?_)
      generalize wr.drew = w44 at BK161 HB hx165_0 hx165_1 hx165_2 hx165_3 hx165_4 hx165_5 hx165_6 hHeld ⊢
      refine pure_ (i := 0) (N := some 35) (v := ?_) (a' := ?_) #[T,F,F,F,F,F,F,F,F,F,F,F,F,F,F,F,F,F,F,F,F,F,F,F,F,F] rfl rfl (any_of HT_.out (by kernel_rfl)) (fun _ _ _ h => h) (Or.inl ⟨by rfl, ?_⟩) ?_ ?_; rotate_left; exact zy; rotate_left; exact zput
      refine pure_ (i := 2) (N := some 37) (v := ?_) (a' := ?_) #[T,F,T,F,F,F,F,F,F,F,F,F,F,F,F,F,F,F,F,F,F,F,F,F,F,F] rfl rfl (any_of HT_.out (by kernel_rfl)) (fun _ _ _ h => h) (Or.inl ⟨by rfl, ?_⟩) ?_ ?_; rotate_left; exact zy; rotate_left; exact zput
      refine take_ (i := 1) (N := some 36) (v := ?_) (a' := ?_) #[T,T,T,F,F,F,F,F,F,F,F,F,F,F,F,F,F,F,F,F,F,F,F,F,F,F] rfl rfl (take_ofW HT_.out HW_.out (by kernel_rfl)) (fun _ _ _ h => h) (Or.inl ⟨by rfl, ?_⟩) hHeld ?_ ?_; rotate_left; exact zt12; rotate_left; exact zput
      refine pure_ (i := 3) (N := some 38) (v := ?_) (a' := ?_) #[T,T,T,T,F,F,F,F,F,F,F,F,F,F,F,F,F,F,F,F,F,F,F,F,F,F] rfl rfl (any_of HT_.out (by kernel_rfl)) (fun _ _ _ h => h) (Or.inl ⟨by rfl, ?_⟩) ?_ ?_; rotate_left; exact zy; rotate_left; exact zput
      refine take_ (i := 4) (N := some 39) (v := ?_) (a' := ?_) #[T,T,T,T,T,F,F,F,F,F,F,F,F,F,F,F,F,F,F,F,F,F,F,F,F,F] rfl rfl (take_ofW HT_.out HW_.out (by kernel_rfl)) (fun _ _ _ h => h) (Or.inl ⟨by rfl, ?_⟩) hHeld ?_ ?_; rotate_left; exact zt12; rotate_left; exact zput
      refine one_ (i := 5) (N := some 40) #[T,T,T,T,T,T,F,F,F,F,F,F,F,F,F,F,F,F,F,F,F,F,F,F,F,F] rfl rfl (one_of HT_.out (by kernel_rfl)) (by decide) (fun K hK => ?_)
      refine goes_ Try.func138 (by kernel_rfl) rfl #[.agg #[.int .i64 ((rd_T132 l0_2 x3_2).f0), .int .i64 ((rd_T132 l0_2 x3_2).f1), .int .i64 ((rd_T132 l0_2 x3_2).f2), .int .i64 ((rd_T132 l0_2 x3_2).f3), .int .i64 ((rd_T132 l0_2 x3_2).f4), .int .i64 ((rd_T132 l0_2 x3_2).f5), .bool ((rd_T132 l0_2 x3_2).f6)]] (by rfl) rfl rfl zl ?_
      with_reducible refine (spec_l22StepOk.calls ((rd_T132 l0_2 x3_2).f0) ((rd_T132 l0_2 x3_2).f1) ((rd_T132 l0_2 x3_2).f2) ((rd_T132 l0_2 x3_2).f3) ((rd_T132 l0_2 x3_2).f4) ((rd_T132 l0_2 x3_2).f5) ((rd_T132 l0_2 x3_2).f6) false _ A24.out).mono ?_
      rintro e w45 ⟨rfl, hb⟩
      refine ⟨_, rfl, ?_⟩
      have n0_ := zb BK161 hb
      have n1_ := zA (below_step (zs1 HB GE161) hb)
      clear BK161 HB
      revert n0_ n1_
      intro BK161 HB
      (try clear hb)
      (try clear hb2)
      (try clear hk)
      (try clear hi)
      refine hK.out _ _ ⟨(blk_cell BK161.out 0).trans rfl, (blk_cell BK161.out 1).trans rfl, (blk_cell BK161.out 2).trans rfl, (blk_cell BK161.out 3).trans rfl, (blk_cell BK161.out 4).trans rfl, (zw HB hw165_0), (zw HB hw165_1), (zw HB hw165_2), (zw HB hw165_3), (zw HB hw165_4), (zw HB hw165_5), (zw HB hw165_6)⟩ (fun hHeld => ?_)
      clear hK K
      refine norm_ (a' := ?_) ?_ ?_
      rotate_left
      ·show Act.put _ (some 40) _ = _
       simp only [Act.put, List.setIfInBounds_toArray, List.set_cons_zero, List.set_cons_succ, i64_w, i32_w]
       rfl
      refine pure_ (i := 6) (N := some 41) (v := ?_) (a' := ?_) #[T,T,T,T,T,T,T,F,F,F,F,F,F,F,F,F,F,F,F,F,F,F,F,F,F,F] rfl rfl (any_of HT_.out (by kernel_rfl)) (fun _ _ _ h => h) (Or.inl ⟨by rfl, ?_⟩) ?_ ?_; rotate_left; exact zy; rotate_left; exact zput
      refine pure_ (i := 7) (N := some 42) (v := ?_) (a' := ?_) #[T,T,T,T,T,T,T,T,F,F,F,F,F,F,F,F,F,F,F,F,F,F,F,F,F,F] rfl rfl (any_of HT_.out (by kernel_rfl)) (fun _ _ _ h => h) (Or.inl ⟨by rfl, ?_⟩) ?_ ?_; rotate_left; exact zy; rotate_left; exact zput
      refine pure_ (i := 8) (N := some 43) (v := undef) (a' := ?_) #[T,T,T,T,T,T,T,T,T,F,F,F,F,F,F,F,F,F,F,F,F,F,F,F,F,F] rfl rfl (any_of HT_.out (by kernel_rfl)) (fun _ _ _ h => h) (Or.inr ⟨by rfl, rfl⟩) ?_ ?_; rotate_left; exact zput
      refine pure_ (i := 9) (N := some 44) (v := undef) (a' := ?_) #[T,T,T,T,T,T,T,T,T,T,F,F,F,F,F,F,F,F,F,F,F,F,F,F,F,F] rfl rfl (any_of HT_.out (by kernel_rfl)) (fun _ _ _ h => h) (Or.inr ⟨by rfl, rfl⟩) ?_ ?_; rotate_left; exact zput
      refine pure_ (i := 10) (N := some 45) (v := undef) (a' := ?_) #[T,T,T,T,T,T,T,T,T,T,T,F,F,F,F,F,F,F,F,F,F,F,F,F,F,F] rfl rfl (any_of HT_.out (by kernel_rfl)) (fun _ _ _ h => h) (Or.inr ⟨by rfl, rfl⟩) ?_ ?_; rotate_left; exact zput
      refine pure_ (i := 11) (N := some 46) (v := undef) (a' := ?_) #[T,T,T,T,T,T,T,T,T,T,T,T,F,F,F,F,F,F,F,F,F,F,F,F,F,F] rfl rfl (any_of HT_.out (by kernel_rfl)) (fun _ _ _ h => h) (Or.inr ⟨by rfl, rfl⟩) ?_ ?_; rotate_left; exact zput
      refine pure_ (i := 12) (N := some 47) (v := undef) (a' := ?_) #[T,T,T,T,T,T,T,T,T,T,T,T,T,F,F,F,F,F,F,F,F,F,F,F,F,F] rfl rfl (any_of HT_.out (by kernel_rfl)) (fun _ _ _ h => h) (Or.inr ⟨by rfl, rfl⟩) ?_ ?_; rotate_left; exact zput
      refine pure_ (i := 13) (N := some 48) (v := undef) (a' := ?_) #[T,T,T,T,T,T,T,T,T,T,T,T,T,T,F,F,F,F,F,F,F,F,F,F,F,F] rfl rfl (any_of HT_.out (by kernel_rfl)) (fun _ _ _ h => h) (Or.inr ⟨by rfl, rfl⟩) ?_ ?_; rotate_left; exact zput
      refine pure_ (i := 14) (N := some 49) (v := undef) (a' := ?_) #[T,T,T,T,T,T,T,T,T,T,T,T,T,T,T,F,F,F,F,F,F,F,F,F,F,F] rfl rfl (any_of HT_.out (by kernel_rfl)) (fun _ _ _ h => h) (Or.inr ⟨by rfl, rfl⟩) ?_ ?_; rotate_left; exact zput
      refine pure_ (i := 15) (N := some 50) (v := undef) (a' := ?_) #[T,T,T,T,T,T,T,T,T,T,T,T,T,T,T,T,F,F,F,F,F,F,F,F,F,F] rfl rfl (any_of HT_.out (by kernel_rfl)) (fun _ _ _ h => h) (Or.inr ⟨by rfl, rfl⟩) ?_ ?_; rotate_left; exact zput
      refine pure_ (i := 16) (N := some 51) (v := undef) (a' := ?_) #[T,T,T,T,T,T,T,T,T,T,T,T,T,T,T,T,T,F,F,F,F,F,F,F,F,F] rfl rfl (any_of HT_.out (by kernel_rfl)) (fun _ _ _ h => h) (Or.inr ⟨by rfl, rfl⟩) ?_ ?_; rotate_left; exact zput
      refine pure_ (i := 17) (N := some 52) (v := undef) (a' := ?_) #[T,T,T,T,T,T,T,T,T,T,T,T,T,T,T,T,T,T,F,F,F,F,F,F,F,F] rfl rfl (any_of HT_.out (by kernel_rfl)) (fun _ _ _ h => h) (Or.inr ⟨by rfl, rfl⟩) ?_ ?_; rotate_left; exact zput
      refine pure_ (i := 18) (N := some 53) (v := undef) (a' := ?_) #[T,T,T,T,T,T,T,T,T,T,T,T,T,T,T,T,T,T,T,F,F,F,F,F,F,F] rfl rfl (any_of HT_.out (by kernel_rfl)) (fun _ _ _ h => h) (Or.inr ⟨by rfl, rfl⟩) ?_ ?_; rotate_left; exact zput
      refine pure_ (i := 19) (N := some 54) (v := undef) (a' := ?_) #[T,T,T,T,T,T,T,T,T,T,T,T,T,T,T,T,T,T,T,T,F,F,F,F,F,F] rfl rfl (any_of HT_.out (by kernel_rfl)) (fun _ _ _ h => h) (Or.inr ⟨by rfl, rfl⟩) ?_ ?_; rotate_left; exact zput
      refine pure_ (i := 20) (N := some 55) (v := undef) (a' := ?_) #[T,T,T,T,T,T,T,T,T,T,T,T,T,T,T,T,T,T,T,T,T,F,F,F,F,F] rfl rfl (any_of HT_.out (by kernel_rfl)) (fun _ _ _ h => h) (Or.inr ⟨by rfl, rfl⟩) ?_ ?_; rotate_left; exact zput
      refine pure_ (i := 21) (N := some 56) (v := undef) (a' := ?_) #[T,T,T,T,T,T,T,T,T,T,T,T,T,T,T,T,T,T,T,T,T,T,F,F,F,F] rfl rfl (any_of HT_.out (by kernel_rfl)) (fun _ _ _ h => h) (Or.inr ⟨by rfl, rfl⟩) ?_ ?_; rotate_left; exact zput
      refine pure_ (i := 22) (N := some 57) (v := undef) (a' := ?_) #[T,T,T,T,T,T,T,T,T,T,T,T,T,T,T,T,T,T,T,T,T,T,T,F,F,F] rfl rfl (any_of HT_.out (by kernel_rfl)) (fun _ _ _ h => h) (Or.inr ⟨by rfl, rfl⟩) ?_ ?_; rotate_left; exact zput
      refine pure_ (i := 23) (N := some 58) (v := undef) (a' := ?_) #[T,T,T,T,T,T,T,T,T,T,T,T,T,T,T,T,T,T,T,T,T,T,T,T,F,F] rfl rfl (any_of HT_.out (by kernel_rfl)) (fun _ _ _ h => h) (Or.inr ⟨by rfl, rfl⟩) ?_ ?_; rotate_left; exact zput
      refine pure_ (i := 24) (N := some 59) (v := undef) (a' := ?_) #[T,T,T,T,T,T,T,T,T,T,T,T,T,T,T,T,T,T,T,T,T,T,T,T,T,F] rfl rfl (any_of HT_.out (by kernel_rfl)) (fun _ _ _ h => h) (Or.inr ⟨by rfl, rfl⟩) ?_ ?_; rotate_left; exact zput
      refine pure_ (i := 25) (N := some 60) (v := ?_) (a' := ?_) #[T,T,T,T,T,T,T,T,T,T,T,T,T,T,T,T,T,T,T,T,T,T,T,T,T,T] rfl rfl (any_of HT_.out (by kernel_rfl)) (fun _ _ _ h => h) (Or.inl ⟨by rfl, ?_⟩) ?_ ?_; rotate_left; exact zy; rotate_left; exact zput
      refine done_ (done_of HT_.out (by kernel_rfl)) ?_
      try go_wp2
      go_ret
      exact ⟨ze, zs1 HB GE161⟩
     subst c25
     have H1 : (if x3_2 > 0 then (if 0 ≤ (wrap64 (x3_2 - 1)) then (if (wrap64 (x3_2 - 1)) < (l0_2.length : Int) then ((spec_l22Next.f ((rd_T132 l0_2 (wrap64 (x3_2 - 1))).f0) ((rd_T132 l0_2 (wrap64 (x3_2 - 1))).f1) ((rd_T132 l0_2 (wrap64 (x3_2 - 1))).f2) ((rd_T132 l0_2 (wrap64 (x3_2 - 1))).f3) ((rd_T132 l0_2 (wrap64 (x3_2 - 1))).f4) ((rd_T132 l0_2 (wrap64 (x3_2 - 1))).f5) ((rd_T132 l0_2 (wrap64 (x3_2 - 1))).f6) ((rd_T132 l0_2 x3_2).f0) ((rd_T132 l0_2 x3_2).f1) ((rd_T132 l0_2 x3_2).f2) ((rd_T132 l0_2 x3_2).f3) ((rd_T132 l0_2 x3_2).f4) ((rd_T132 l0_2 x3_2).f5) ((rd_T132 l0_2 x3_2).f6)).bind fun t169 => (if t169 = true then (spec_FlyPathOk.l0 k2 (wrap64 (x3_2 + 1)) a0_0 a0_1 l0_2 a0_3 a0_4) else (some false))) else (none)) else (none)) else (spec_FlyPathOk.l0 k2 (wrap64 (x3_2 + 1)) a0_0 a0_1 l0_2 a0_3 a0_4)) = some r := by rw [if_pos rfl] at H; exact H
     clear H
     have H := H1
     clear H1
     by_cases c26 : x3_2 > 0
     rotate_left
     ·rw [if_neg c26] at H
      have c26b0 : decide (0 < x3_2) = false := decide_eq_false c26
      clear c26
      have H' := zA H
      clear H
      obtain ⟨hcz40_0, hcz40_1, hcz40_2, hcz40_3, hcz40_4⟩ := zd5 BK161
      obtain ⟨hfz40_0, hfz40_1, hfz40_2, hfz40_3, hfz40_4⟩ := zn5 BK161
      try go_wp2
      have n0_ := zA (blk_drew BK161.out)
      have n1_ := zA (below_drew1 HB.out)
      clear BK161 HB
      revert n0_ n1_
      intro BK161 HB
      have p165 : 0 ≤ (x3_2 : Int) := za
      have q165 : x3_2 < (l0_2.length : Int) := za
      obtain ⟨ad165, e165, hx165_0, hx165_1, hx165_2, hx165_3, hx165_4, hx165_5, hx165_6⟩ := at_T132 HR0_2.out x3_2 p165 q165
      have hw165_6 := hx165_6
      have hw165_5 := hx165_5
      have hw165_4 := hx165_4
      have hw165_3 := hx165_3
      have hw165_2 := hx165_2
      have hw165_1 := hx165_1
      have hw165_0 := hx165_0
      cases e165
      replace hx165_0 := zx HB hx165_0
      replace hx165_1 := zx HB hx165_1
      replace hx165_2 := zx HB hx165_2
      replace hx165_3 := zx HB hx165_3
      replace hx165_4 := zx HB hx165_4
      replace hx165_5 := zx HB hx165_5
      replace hx165_6 := zx HB hx165_6
      replace p165 := eq_true p165
      replace q165 := eq_true q165
      refine start_ (n := 26) (S := fun w' => w'.cell? ⟨gb161, 0, none⟩ = some (.int .i64 a0_0) ∧ w'.cell? ⟨gb161, 1, none⟩ = some (.int .i64 a0_1) ∧ w'.cell? ⟨gb161, 2, none⟩ = some (.slice (some ad165) l0_2.length c0_2) ∧ w'.cell? ⟨gb161, 3, none⟩ = some (.int .i64 a0_3) ∧ w'.cell? ⟨gb161, 4, none⟩ = some (.int .i64 a0_4) ∧ w'.cell? (ad165.add ((x3_2).toNat * 7)) = some (.int .i64 ((rd_T132 l0_2 x3_2).f0)) ∧ w'.cell? ⟨(ad165.add ((x3_2).toNat * 7)).block, (ad165.add ((x3_2).toNat * 7)).off + 1, none⟩ = some (.int .i64 ((rd_T132 l0_2 x3_2).f1)) ∧ w'.cell? ⟨(ad165.add ((x3_2).toNat * 7)).block, (ad165.add ((x3_2).toNat * 7)).off + 2, none⟩ = some (.int .i64 ((rd_T132 l0_2 x3_2).f2)) ∧ w'.cell? ⟨(ad165.add ((x3_2).toNat * 7)).block, (ad165.add ((x3_2).toNat * 7)).off + 3, none⟩ = some (.int .i64 ((rd_T132 l0_2 x3_2).f3)) ∧ w'.cell? ⟨(ad165.add ((x3_2).toNat * 7)).block, (ad165.add ((x3_2).toNat * 7)).off + 4, none⟩ = some (.int .i64 ((rd_T132 l0_2 x3_2).f4)) ∧ w'.cell? ⟨(ad165.add ((x3_2).toNat * 7)).block, (ad165.add ((x3_2).toNat * 7)).off + 5, none⟩ = some (.int .i64 ((rd_T132 l0_2 x3_2).f5)) ∧ w'.cell? ⟨(ad165.add ((x3_2).toNat * 7)).block, (ad165.add ((x3_2).toNat * 7)).off + 6, none⟩ = some (.bool ((rd_T132 l0_2 x3_2).f6))) (ds := []) #[F,F,F,F,F,F,F,F,F,F,F,F,F,F,F,F,F,F,F,F,F,F,F,F,F,F] (by kernel_rfl) rfl rfl ⟨(blk_cell BK161.out 0).trans rfl, (blk_cell BK161.out 1).trans rfl, (blk_cell BK161.out 2).trans rfl, (blk_cell BK161.out 3).trans rfl, (blk_cell BK161.out 4).trans rfl, (zw HB hw165_0), (zw HB hw165_1), (zw HB hw165_2), (zw HB hw165_3), (zw HB hw165_4), (zw HB hw165_5), (zw HB hw165_6)⟩ (fun hHeld => ?_); refine with_tabW spec_FlyPathOk.tab6 spec_FlyPathOk.bits6 (fun HT_ HW_ => ?_)
      generalize wr.drew = w41 at BK161 HB hx165_0 hx165_1 hx165_2 hx165_3 hx165_4 hx165_5 hx165_6 hHeld ⊢
      refine pure_ (i := 0) (N := some 35) (v := ?_) (a' := ?_) #[T,F,F,F,F,F,F,F,F,F,F,F,F,F,F,F,F,F,F,F,F,F,F,F,F,F] rfl rfl (any_of HT_.out (by kernel_rfl)) (fun _ _ _ h => h) (Or.inl ⟨by rfl, ?_⟩) ?_ ?_; rotate_left; exact zy; rotate_left; exact zput
      refine pure_ (i := 2) (N := some 37) (v := ?_) (a' := ?_) #[T,F,T,F,F,F,F,F,F,F,F,F,F,F,F,F,F,F,F,F,F,F,F,F,F,F] rfl rfl (any_of HT_.out (by kernel_rfl)) (fun _ _ _ h => h) (Or.inl ⟨by rfl, ?_⟩) ?_ ?_; rotate_left; exact zy; rotate_left; exact zput
      refine take_ (i := 1) (N := some 36) (v := ?_) (a' := ?_) #[T,T,T,F,F,F,F,F,F,F,F,F,F,F,F,F,F,F,F,F,F,F,F,F,F,F] rfl rfl (take_ofW HT_.out HW_.out (by kernel_rfl)) (fun _ _ _ h => h) (Or.inl ⟨by rfl, ?_⟩) hHeld ?_ ?_; rotate_left; exact zt12; rotate_left; exact zput
      refine pure_ (i := 3) (N := some 38) (v := ?_) (a' := ?_) #[T,T,T,T,F,F,F,F,F,F,F,F,F,F,F,F,F,F,F,F,F,F,F,F,F,F] rfl rfl (any_of HT_.out (by kernel_rfl)) (fun _ _ _ h => h) (Or.inl ⟨by rfl, ?_⟩) ?_ ?_; rotate_left; exact zy; rotate_left; exact zput
      refine take_ (i := 4) (N := some 39) (v := ?_) (a' := ?_) #[T,T,T,T,T,F,F,F,F,F,F,F,F,F,F,F,F,F,F,F,F,F,F,F,F,F] rfl rfl (take_ofW HT_.out HW_.out (by kernel_rfl)) (fun _ _ _ h => h) (Or.inl ⟨by rfl, ?_⟩) hHeld ?_ ?_; rotate_left; exact zt12; rotate_left; exact zput
      refine one_ (i := 5) (N := some 40) #[T,T,T,T,T,T,F,F,F,F,F,F,F,F,F,F,F,F,F,F,F,F,F,F,F,F] rfl rfl (one_of HT_.out (by kernel_rfl)) (by decide) (fun K hK => ?_)
      refine goes_ Try.func138 (by kernel_rfl) rfl #[.agg #[.int .i64 ((rd_T132 l0_2 x3_2).f0), .int .i64 ((rd_T132 l0_2 x3_2).f1), .int .i64 ((rd_T132 l0_2 x3_2).f2), .int .i64 ((rd_T132 l0_2 x3_2).f3), .int .i64 ((rd_T132 l0_2 x3_2).f4), .int .i64 ((rd_T132 l0_2 x3_2).f5), .bool ((rd_T132 l0_2 x3_2).f6)]] (by rfl) rfl rfl zl ?_
      with_reducible refine (spec_l22StepOk.calls ((rd_T132 l0_2 x3_2).f0) ((rd_T132 l0_2 x3_2).f1) ((rd_T132 l0_2 x3_2).f2) ((rd_T132 l0_2 x3_2).f3) ((rd_T132 l0_2 x3_2).f4) ((rd_T132 l0_2 x3_2).f5) ((rd_T132 l0_2 x3_2).f6) true _ A24.out).mono ?_
      rintro e w42 ⟨rfl, hb⟩
      refine ⟨_, rfl, ?_⟩
      have n0_ := zb BK161 hb
      have n1_ := zA (below_step (zs1 HB GE161) hb)
      clear BK161 HB
      revert n0_ n1_
      intro BK161 HB
      (try clear hb)
      (try clear hb2)
      (try clear hk)
      (try clear hi)
      refine hK.out _ _ ⟨(blk_cell BK161.out 0).trans rfl, (blk_cell BK161.out 1).trans rfl, (blk_cell BK161.out 2).trans rfl, (blk_cell BK161.out 3).trans rfl, (blk_cell BK161.out 4).trans rfl, (zw HB hw165_0), (zw HB hw165_1), (zw HB hw165_2), (zw HB hw165_3), (zw HB hw165_4), (zw HB hw165_5), (zw HB hw165_6)⟩ (fun hHeld => ?_)
      clear hK K
      refine norm_ (a' := ?_) ?_ ?_
      rotate_left
      ·show Act.put _ (some 40) _ = _
       simp only [Act.put, List.setIfInBounds_toArray, List.set_cons_zero, List.set_cons_succ, i64_w, i32_w]
       rfl
      refine pure_ (i := 6) (N := some 41) (v := ?_) (a' := ?_) #[T,T,T,T,T,T,T,F,F,F,F,F,F,F,F,F,F,F,F,F,F,F,F,F,F,F] rfl rfl (any_of HT_.out (by kernel_rfl)) (fun _ _ _ h => h) (Or.inl ⟨by rfl, ?_⟩) ?_ ?_; rotate_left; exact zy; rotate_left; exact zput
      refine pure_ (i := 7) (N := some 42) (v := ?_) (a' := ?_) #[T,T,T,T,T,T,T,T,F,F,F,F,F,F,F,F,F,F,F,F,F,F,F,F,F,F] rfl rfl (any_of HT_.out (by kernel_rfl)) (fun _ _ _ h => h) (Or.inl ⟨by rfl, ?_⟩) ?_ ?_; rotate_left; exact zy; rotate_left; exact zput
      refine pure_ (i := 8) (N := some 43) (v := ?_) (a' := ?_) #[T,T,T,T,T,T,T,T,T,F,F,F,F,F,F,F,F,F,F,F,F,F,F,F,F,F] rfl rfl (any_of HT_.out (by kernel_rfl)) (fun _ _ _ h => h) (Or.inl ⟨by rfl, ?_⟩) ?_ ?_; rotate_left; exact zy; rotate_left; exact zput
      refine pure_ (i := 9) (N := some 44) (v := ?_) (a' := ?_) #[T,T,T,T,T,T,T,T,T,T,F,F,F,F,F,F,F,F,F,F,F,F,F,F,F,F] rfl rfl (any_of HT_.out (by kernel_rfl)) (fun _ _ _ h => h) (Or.inl ⟨by rfl, ?_⟩) ?_ ?_; rotate_left; exact zy; rotate_left; exact zput
      refine pure_ (i := 10) (N := some 45) (v := ?_) (a' := ?_) #[T,T,T,T,T,T,T,T,T,T,T,F,F,F,F,F,F,F,F,F,F,F,F,F,F,F] rfl rfl (any_of HT_.out (by kernel_rfl)) (fun _ _ _ h => h) (Or.inl ⟨by rfl, ?_⟩) ?_ ?_; rotate_left; exact zy; rotate_left; exact zput
      refine pure_ (i := 11) (N := some 46) (v := undef) (a' := ?_) #[T,T,T,T,T,T,T,T,T,T,T,T,F,F,F,F,F,F,F,F,F,F,F,F,F,F] rfl rfl (any_of HT_.out (by kernel_rfl)) (fun _ _ _ h => h) (Or.inr ⟨by rfl, rfl⟩) ?_ ?_; rotate_left; exact zput
      refine pure_ (i := 12) (N := some 47) (v := undef) (a' := ?_) #[T,T,T,T,T,T,T,T,T,T,T,T,T,F,F,F,F,F,F,F,F,F,F,F,F,F] rfl rfl (any_of HT_.out (by kernel_rfl)) (fun _ _ _ h => h) (Or.inr ⟨by rfl, rfl⟩) ?_ ?_; rotate_left; exact zput
      refine pure_ (i := 13) (N := some 48) (v := undef) (a' := ?_) #[T,T,T,T,T,T,T,T,T,T,T,T,T,T,F,F,F,F,F,F,F,F,F,F,F,F] rfl rfl (any_of HT_.out (by kernel_rfl)) (fun _ _ _ h => h) (Or.inr ⟨by rfl, rfl⟩) ?_ ?_; rotate_left; exact zput
      refine pure_ (i := 14) (N := some 49) (v := undef) (a' := ?_) #[T,T,T,T,T,T,T,T,T,T,T,T,T,T,T,F,F,F,F,F,F,F,F,F,F,F] rfl rfl (any_of HT_.out (by kernel_rfl)) (fun _ _ _ h => h) (Or.inr ⟨by rfl, rfl⟩) ?_ ?_; rotate_left; exact zput
      refine pure_ (i := 15) (N := some 50) (v := undef) (a' := ?_) #[T,T,T,T,T,T,T,T,T,T,T,T,T,T,T,T,F,F,F,F,F,F,F,F,F,F] rfl rfl (any_of HT_.out (by kernel_rfl)) (fun _ _ _ h => h) (Or.inr ⟨by rfl, rfl⟩) ?_ ?_; rotate_left; exact zput
      refine pure_ (i := 16) (N := some 51) (v := undef) (a' := ?_) #[T,T,T,T,T,T,T,T,T,T,T,T,T,T,T,T,T,F,F,F,F,F,F,F,F,F] rfl rfl (any_of HT_.out (by kernel_rfl)) (fun _ _ _ h => h) (Or.inr ⟨by rfl, rfl⟩) ?_ ?_; rotate_left; exact zput
      refine pure_ (i := 17) (N := some 52) (v := undef) (a' := ?_) #[T,T,T,T,T,T,T,T,T,T,T,T,T,T,T,T,T,T,F,F,F,F,F,F,F,F] rfl rfl (any_of HT_.out (by kernel_rfl)) (fun _ _ _ h => h) (Or.inr ⟨by rfl, rfl⟩) ?_ ?_; rotate_left; exact zput
      refine pure_ (i := 18) (N := some 53) (v := undef) (a' := ?_) #[T,T,T,T,T,T,T,T,T,T,T,T,T,T,T,T,T,T,T,F,F,F,F,F,F,F] rfl rfl (any_of HT_.out (by kernel_rfl)) (fun _ _ _ h => h) (Or.inr ⟨by rfl, rfl⟩) ?_ ?_; rotate_left; exact zput
      refine pure_ (i := 19) (N := some 54) (v := undef) (a' := ?_) #[T,T,T,T,T,T,T,T,T,T,T,T,T,T,T,T,T,T,T,T,F,F,F,F,F,F] rfl rfl (any_of HT_.out (by kernel_rfl)) (fun _ _ _ h => h) (Or.inr ⟨by rfl, rfl⟩) ?_ ?_; rotate_left; exact zput
      refine pure_ (i := 20) (N := some 55) (v := undef) (a' := ?_) #[T,T,T,T,T,T,T,T,T,T,T,T,T,T,T,T,T,T,T,T,T,F,F,F,F,F] rfl rfl (any_of HT_.out (by kernel_rfl)) (fun _ _ _ h => h) (Or.inr ⟨by rfl, rfl⟩) ?_ ?_; rotate_left; exact zput
      refine pure_ (i := 21) (N := some 56) (v := undef) (a' := ?_) #[T,T,T,T,T,T,T,T,T,T,T,T,T,T,T,T,T,T,T,T,T,T,F,F,F,F] rfl rfl (any_of HT_.out (by kernel_rfl)) (fun _ _ _ h => h) (Or.inr ⟨by rfl, rfl⟩) ?_ ?_; rotate_left; exact zput
      refine pure_ (i := 22) (N := some 57) (v := undef) (a' := ?_) #[T,T,T,T,T,T,T,T,T,T,T,T,T,T,T,T,T,T,T,T,T,T,T,F,F,F] rfl rfl (any_of HT_.out (by kernel_rfl)) (fun _ _ _ h => h) (Or.inr ⟨by rfl, rfl⟩) ?_ ?_; rotate_left; exact zput
      refine pure_ (i := 23) (N := some 58) (v := undef) (a' := ?_) #[T,T,T,T,T,T,T,T,T,T,T,T,T,T,T,T,T,T,T,T,T,T,T,T,F,F] rfl rfl (any_of HT_.out (by kernel_rfl)) (fun _ _ _ h => h) (Or.inr ⟨by rfl, rfl⟩) ?_ ?_; rotate_left; exact zput
      refine pure_ (i := 24) (N := some 59) (v := ?_) (a' := ?_) #[T,T,T,T,T,T,T,T,T,T,T,T,T,T,T,T,T,T,T,T,T,T,T,T,T,F] rfl rfl (any_of HT_.out (by kernel_rfl)) (fun _ _ _ h => h) (Or.inl ⟨by rfl, ?_⟩) ?_ ?_; rotate_left; exact zy; rotate_left; exact zput
      refine pure_ (i := 25) (N := some 60) (v := ?_) (a' := ?_) #[T,T,T,T,T,T,T,T,T,T,T,T,T,T,T,T,T,T,T,T,T,T,T,T,T,T] rfl rfl (any_of HT_.out (by kernel_rfl)) (fun _ _ _ h => h) (Or.inl ⟨by rfl, ?_⟩) ?_ ?_; rotate_left; exact zy; rotate_left; exact zput
      refine done_ (done_of HT_.out (by kernel_rfl)) ?_
      try go_wp2
      go_roundg k2
      case measure => have := HJ1.out; have := HK2.out; omega
      case rel => exact ⟨(wrap64 (x3_2 + 1)), zi, H', ⟨by have := HJ1.out; have := HK2.out; omega⟩, ⟨zh BK161⟩, ⟨zs1 HB GE161⟩⟩
     rw [if_pos c26] at H
     have c26b0 : decide (0 < x3_2) = true := decide_eq_true c26
     clear c26
     obtain ⟨ji27, hji27⟩ : ∃ j_ : Int, (wrap64 (x3_2 - 1)) = j_ := ⟨_, rfl⟩
     replace H : (if 0 ≤ (ji27) then (if (ji27) < (l0_2.length : Int) then ((spec_l22Next.f ((rd_T132 l0_2 (ji27)).f0) ((rd_T132 l0_2 (ji27)).f1) ((rd_T132 l0_2 (ji27)).f2) ((rd_T132 l0_2 (ji27)).f3) ((rd_T132 l0_2 (ji27)).f4) ((rd_T132 l0_2 (ji27)).f5) ((rd_T132 l0_2 (ji27)).f6) ((rd_T132 l0_2 x3_2).f0) ((rd_T132 l0_2 x3_2).f1) ((rd_T132 l0_2 x3_2).f2) ((rd_T132 l0_2 x3_2).f3) ((rd_T132 l0_2 x3_2).f4) ((rd_T132 l0_2 x3_2).f5) ((rd_T132 l0_2 x3_2).f6)).bind fun t169 => (if t169 = true then (spec_FlyPathOk.l0 k2 (wrap64 (x3_2 + 1)) a0_0 a0_1 l0_2 a0_3 a0_4) else (some false))) else (none)) else (none)) = some r := by first | (rw [hji27] at H; exact H) | (simp only [hji27] at H ⊢; exact H)
     (try rw [hji27] at A24)
     have hji27w : (IntKind.i64.wrap (x3_2 - 1)) = ji27 := (i64_w _).trans hji27
     by_cases c28 : 0 ≤ (ji27)
     rotate_left
     ·rw [if_neg c28] at H
      exact absurd H (by simp)
     rw [if_pos c28] at H
     have c28b0 : decide (0 ≤ (ji27)) = true := decide_eq_true c28
     clear c28
     by_cases c29 : (ji27) < (l0_2.length : Int)
     rotate_left
     ·rw [if_neg c29] at H
      exact absurd H (by simp)
     rw [if_pos c29] at H
     have c29b0 : decide ((ji27) < (l0_2.length : Int)) = true := decide_eq_true c29
     clear c29
     replace H := Option.bind_eq_some_iff.mp H
     obtain ⟨t169, A300, H⟩ := H
     replace H : (if t169 = true then (spec_FlyPathOk.l0 k2 (wrap64 (x3_2 + 1)) a0_0 a0_1 l0_2 a0_3 a0_4) else (some false)) = some r := H
     have A30 := zA A300
     clear A300
     by_cases c31 : t169 = true
     rotate_left
     ·replace c31 := Bool.eq_false_iff.mpr c31
      subst c31
      have H1 : (some false) = some r := by rw [if_neg (show ¬ (false = true) by decide)] at H; exact H
      clear H
      have H := H1
      clear H1
      obtain rfl := Option.some.inj H
      obtain ⟨hcz36_0, hcz36_1, hcz36_2, hcz36_3, hcz36_4⟩ := zd5 BK161
      obtain ⟨hfz36_0, hfz36_1, hfz36_2, hfz36_3, hfz36_4⟩ := zn5 BK161
      try go_wp2
      have n0_ := zA (blk_drew BK161.out)
      have n1_ := zA (below_drew1 HB.out)
      clear BK161 HB
      revert n0_ n1_
      intro BK161 HB
      have p165 : 0 ≤ (x3_2 : Int) := za
      have q165 : x3_2 < (l0_2.length : Int) := za
      obtain ⟨ad165, e165, hx165_0, hx165_1, hx165_2, hx165_3, hx165_4, hx165_5, hx165_6⟩ := at_T132 HR0_2.out x3_2 p165 q165
      have hw165_6 := hx165_6
      have hw165_5 := hx165_5
      have hw165_4 := hx165_4
      have hw165_3 := hx165_3
      have hw165_2 := hx165_2
      have hw165_1 := hx165_1
      have hw165_0 := hx165_0
      cases e165
      replace hx165_0 := zx HB hx165_0
      replace hx165_1 := zx HB hx165_1
      replace hx165_2 := zx HB hx165_2
      replace hx165_3 := zx HB hx165_3
      replace hx165_4 := zx HB hx165_4
      replace hx165_5 := zx HB hx165_5
      replace hx165_6 := zx HB hx165_6
      replace p165 := eq_true p165
      replace q165 := eq_true q165
      have p167 : 0 ≤ ((ji27) : Int) := za
      have q167 : (ji27) < (l0_2.length : Int) := za
      obtain ⟨ad167, e167, hx167_0, hx167_1, hx167_2, hx167_3, hx167_4, hx167_5, hx167_6⟩ := at_T132 HR0_2.out (ji27) p167 q167
      have hw167_6 := hx167_6
      have hw167_5 := hx167_5
      have hw167_4 := hx167_4
      have hw167_3 := hx167_3
      have hw167_2 := hx167_2
      have hw167_1 := hx167_1
      have hw167_0 := hx167_0
      obtain rfl : ad165 = ad167 := (by injection e167)
      replace hx167_0 := zx HB hx167_0
      replace hx167_1 := zx HB hx167_1
      replace hx167_2 := zx HB hx167_2
      replace hx167_3 := zx HB hx167_3
      replace hx167_4 := zx HB hx167_4
      replace hx167_5 := zx HB hx167_5
      replace hx167_6 := zx HB hx167_6
      replace p167 := eq_true p167
      replace q167 := eq_true q167
      have p168 : 0 ≤ (x3_2 : Int) := za
      have q168 : x3_2 < (l0_2.length : Int) := za
      obtain ⟨ad168, e168, hx168_0, hx168_1, hx168_2, hx168_3, hx168_4, hx168_5, hx168_6⟩ := at_T132 HR0_2.out x3_2 p168 q168
      have hw168_6 := hx168_6
      have hw168_5 := hx168_5
      have hw168_4 := hx168_4
      have hw168_3 := hx168_3
      have hw168_2 := hx168_2
      have hw168_1 := hx168_1
      have hw168_0 := hx168_0
      obtain rfl : ad165 = ad168 := (by injection e168)
      replace hx168_0 := zx HB hx168_0
      replace hx168_1 := zx HB hx168_1
      replace hx168_2 := zx HB hx168_2
      replace hx168_3 := zx HB hx168_3
      replace hx168_4 := zx HB hx168_4
      replace hx168_5 := zx HB hx168_5
      replace hx168_6 := zx HB hx168_6
      replace p168 := eq_true p168
      replace q168 := eq_true q168
      refine start_ (n := 26) (S := fun w' => w'.cell? ⟨gb161, 0, none⟩ = some (.int .i64 a0_0) ∧ w'.cell? ⟨gb161, 1, none⟩ = some (.int .i64 a0_1) ∧ w'.cell? ⟨gb161, 2, none⟩ = some (.slice (some ad165) l0_2.length c0_2) ∧ w'.cell? ⟨gb161, 3, none⟩ = some (.int .i64 a0_3) ∧ w'.cell? ⟨gb161, 4, none⟩ = some (.int .i64 a0_4) ∧ w'.cell? (ad165.add ((x3_2).toNat * 7)) = some (.int .i64 ((rd_T132 l0_2 x3_2).f0)) ∧ w'.cell? ⟨(ad165.add ((x3_2).toNat * 7)).block, (ad165.add ((x3_2).toNat * 7)).off + 1, none⟩ = some (.int .i64 ((rd_T132 l0_2 x3_2).f1)) ∧ w'.cell? ⟨(ad165.add ((x3_2).toNat * 7)).block, (ad165.add ((x3_2).toNat * 7)).off + 2, none⟩ = some (.int .i64 ((rd_T132 l0_2 x3_2).f2)) ∧ w'.cell? ⟨(ad165.add ((x3_2).toNat * 7)).block, (ad165.add ((x3_2).toNat * 7)).off + 3, none⟩ = some (.int .i64 ((rd_T132 l0_2 x3_2).f3)) ∧ w'.cell? ⟨(ad165.add ((x3_2).toNat * 7)).block, (ad165.add ((x3_2).toNat * 7)).off + 4, none⟩ = some (.int .i64 ((rd_T132 l0_2 x3_2).f4)) ∧ w'.cell? ⟨(ad165.add ((x3_2).toNat * 7)).block, (ad165.add ((x3_2).toNat * 7)).off + 5, none⟩ = some (.int .i64 ((rd_T132 l0_2 x3_2).f5)) ∧ w'.cell? ⟨(ad165.add ((x3_2).toNat * 7)).block, (ad165.add ((x3_2).toNat * 7)).off + 6, none⟩ = some (.bool ((rd_T132 l0_2 x3_2).f6)) ∧ w'.cell? (ad165.add (((ji27)).toNat * 7)) = some (.int .i64 ((rd_T132 l0_2 (ji27)).f0)) ∧ w'.cell? ⟨(ad165.add (((ji27)).toNat * 7)).block, (ad165.add (((ji27)).toNat * 7)).off + 1, none⟩ = some (.int .i64 ((rd_T132 l0_2 (ji27)).f1)) ∧ w'.cell? ⟨(ad165.add (((ji27)).toNat * 7)).block, (ad165.add (((ji27)).toNat * 7)).off + 2, none⟩ = some (.int .i64 ((rd_T132 l0_2 (ji27)).f2)) ∧ w'.cell? ⟨(ad165.add (((ji27)).toNat * 7)).block, (ad165.add (((ji27)).toNat * 7)).off + 3, none⟩ = some (.int .i64 ((rd_T132 l0_2 (ji27)).f3)) ∧ w'.cell? ⟨(ad165.add (((ji27)).toNat * 7)).block, (ad165.add (((ji27)).toNat * 7)).off + 4, none⟩ = some (.int .i64 ((rd_T132 l0_2 (ji27)).f4)) ∧ w'.cell? ⟨(ad165.add (((ji27)).toNat * 7)).block, (ad165.add (((ji27)).toNat * 7)).off + 5, none⟩ = some (.int .i64 ((rd_T132 l0_2 (ji27)).f5)) ∧ w'.cell? ⟨(ad165.add (((ji27)).toNat * 7)).block, (ad165.add (((ji27)).toNat * 7)).off + 6, none⟩ = some (.bool ((rd_T132 l0_2 (ji27)).f6)) ∧ w'.cell? (ad165.add ((x3_2).toNat * 7)) = some (.int .i64 ((rd_T132 l0_2 x3_2).f0)) ∧ w'.cell? ⟨(ad165.add ((x3_2).toNat * 7)).block, (ad165.add ((x3_2).toNat * 7)).off + 1, none⟩ = some (.int .i64 ((rd_T132 l0_2 x3_2).f1)) ∧ w'.cell? ⟨(ad165.add ((x3_2).toNat * 7)).block, (ad165.add ((x3_2).toNat * 7)).off + 2, none⟩ = some (.int .i64 ((rd_T132 l0_2 x3_2).f2)) ∧ w'.cell? ⟨(ad165.add ((x3_2).toNat * 7)).block, (ad165.add ((x3_2).toNat * 7)).off + 3, none⟩ = some (.int .i64 ((rd_T132 l0_2 x3_2).f3)) ∧ w'.cell? ⟨(ad165.add ((x3_2).toNat * 7)).block, (ad165.add ((x3_2).toNat * 7)).off + 4, none⟩ = some (.int .i64 ((rd_T132 l0_2 x3_2).f4)) ∧ w'.cell? ⟨(ad165.add ((x3_2).toNat * 7)).block, (ad165.add ((x3_2).toNat * 7)).off + 5, none⟩ = some (.int .i64 ((rd_T132 l0_2 x3_2).f5)) ∧ w'.cell? ⟨(ad165.add ((x3_2).toNat * 7)).block, (ad165.add ((x3_2).toNat * 7)).off + 6, none⟩ = some (.bool ((rd_T132 l0_2 x3_2).f6))) (ds := []) #[F,F,F,F,F,F,F,F,F,F,F,F,F,F,F,F,F,F,F,F,F,F,F,F,F,F] (by kernel_rfl) rfl rfl ⟨(blk_cell BK161.out 0).trans rfl, (blk_cell BK161.out 1).trans rfl, (blk_cell BK161.out 2).trans rfl, (blk_cell BK161.out 3).trans rfl, (blk_cell BK161.out 4).trans rfl, (zw HB hw165_0), (zw HB hw165_1), (zw HB hw165_2), (zw HB hw165_3), (zw HB hw165_4), (zw HB hw165_5), (zw HB hw165_6), (zw HB hw167_0), (zw HB hw167_1), (zw HB hw167_2), (zw HB hw167_3), (zw HB hw167_4), (zw HB hw167_5), (zw HB hw167_6), (zw HB hw168_0), (zw HB hw168_1), (zw HB hw168_2), (zw HB hw168_3), (zw HB hw168_4), (zw HB hw168_5), (zw HB hw168_6)⟩ (fun hHeld => ?_); refine with_tabW spec_FlyPathOk.tab6 spec_FlyPathOk.bits6 (fun HT_ HW_ => ?_)
      generalize wr.drew = w37 at BK161 HB hx165_0 hx165_1 hx165_2 hx165_3 hx165_4 hx165_5 hx165_6 hx167_0 hx167_1 hx167_2 hx167_3 hx167_4 hx167_5 hx167_6 hx168_0 hx168_1 hx168_2 hx168_3 hx168_4 hx168_5 hx168_6 hHeld ⊢
      refine pure_ (i := 0) (N := some 35) (v := ?_) (a' := ?_) #[T,F,F,F,F,F,F,F,F,F,F,F,F,F,F,F,F,F,F,F,F,F,F,F,F,F] rfl rfl (any_of HT_.out (by kernel_rfl)) (fun _ _ _ h => h) (Or.inl ⟨by rfl, ?_⟩) ?_ ?_; rotate_left; exact zy; rotate_left; exact zput
      refine pure_ (i := 2) (N := some 37) (v := ?_) (a' := ?_) #[T,F,T,F,F,F,F,F,F,F,F,F,F,F,F,F,F,F,F,F,F,F,F,F,F,F] rfl rfl (any_of HT_.out (by kernel_rfl)) (fun _ _ _ h => h) (Or.inl ⟨by rfl, ?_⟩) ?_ ?_; rotate_left; exact zy; rotate_left; exact zput
      refine take_ (i := 1) (N := some 36) (v := ?_) (a' := ?_) #[T,T,T,F,F,F,F,F,F,F,F,F,F,F,F,F,F,F,F,F,F,F,F,F,F,F] rfl rfl (take_ofW HT_.out HW_.out (by kernel_rfl)) (fun _ _ _ h => h) (Or.inl ⟨by rfl, ?_⟩) hHeld ?_ ?_; rotate_left; exact zt26; rotate_left; exact zput
      refine pure_ (i := 3) (N := some 38) (v := ?_) (a' := ?_) #[T,T,T,T,F,F,F,F,F,F,F,F,F,F,F,F,F,F,F,F,F,F,F,F,F,F] rfl rfl (any_of HT_.out (by kernel_rfl)) (fun _ _ _ h => h) (Or.inl ⟨by rfl, ?_⟩) ?_ ?_; rotate_left; exact zy; rotate_left; exact zput
      refine take_ (i := 4) (N := some 39) (v := ?_) (a' := ?_) #[T,T,T,T,T,F,F,F,F,F,F,F,F,F,F,F,F,F,F,F,F,F,F,F,F,F] rfl rfl (take_ofW HT_.out HW_.out (by kernel_rfl)) (fun _ _ _ h => h) (Or.inl ⟨by rfl, ?_⟩) hHeld ?_ ?_; rotate_left; exact zt26; rotate_left; exact zput
      refine one_ (i := 5) (N := some 40) #[T,T,T,T,T,T,F,F,F,F,F,F,F,F,F,F,F,F,F,F,F,F,F,F,F,F] rfl rfl (one_of HT_.out (by kernel_rfl)) (by decide) (fun K hK => ?_)
      refine goes_ Try.func138 (by kernel_rfl) rfl #[.agg #[.int .i64 ((rd_T132 l0_2 x3_2).f0), .int .i64 ((rd_T132 l0_2 x3_2).f1), .int .i64 ((rd_T132 l0_2 x3_2).f2), .int .i64 ((rd_T132 l0_2 x3_2).f3), .int .i64 ((rd_T132 l0_2 x3_2).f4), .int .i64 ((rd_T132 l0_2 x3_2).f5), .bool ((rd_T132 l0_2 x3_2).f6)]] (by rfl) rfl rfl zl ?_
      with_reducible refine (spec_l22StepOk.calls ((rd_T132 l0_2 x3_2).f0) ((rd_T132 l0_2 x3_2).f1) ((rd_T132 l0_2 x3_2).f2) ((rd_T132 l0_2 x3_2).f3) ((rd_T132 l0_2 x3_2).f4) ((rd_T132 l0_2 x3_2).f5) ((rd_T132 l0_2 x3_2).f6) true _ A24.out).mono ?_
      rintro e w38 ⟨rfl, hb⟩
      refine ⟨_, rfl, ?_⟩
      have n0_ := zb BK161 hb
      have n1_ := zA (below_step (zs1 HB GE161) hb)
      clear BK161 HB
      revert n0_ n1_
      intro BK161 HB
      (try clear hb)
      (try clear hb2)
      (try clear hk)
      (try clear hi)
      refine hK.out _ _ ⟨(blk_cell BK161.out 0).trans rfl, (blk_cell BK161.out 1).trans rfl, (blk_cell BK161.out 2).trans rfl, (blk_cell BK161.out 3).trans rfl, (blk_cell BK161.out 4).trans rfl, (zw HB hw165_0), (zw HB hw165_1), (zw HB hw165_2), (zw HB hw165_3), (zw HB hw165_4), (zw HB hw165_5), (zw HB hw165_6), (zw HB hw167_0), (zw HB hw167_1), (zw HB hw167_2), (zw HB hw167_3), (zw HB hw167_4), (zw HB hw167_5), (zw HB hw167_6), (zw HB hw168_0), (zw HB hw168_1), (zw HB hw168_2), (zw HB hw168_3), (zw HB hw168_4), (zw HB hw168_5), (zw HB hw168_6)⟩ (fun hHeld => ?_)
      clear hK K
      refine norm_ (a' := ?_) ?_ ?_
      rotate_left
      ·show Act.put _ (some 40) _ = _
       simp only [Act.put, List.setIfInBounds_toArray, List.set_cons_zero, List.set_cons_succ, i64_w, i32_w]
       rfl
      refine pure_ (i := 6) (N := some 41) (v := ?_) (a' := ?_) #[T,T,T,T,T,T,T,F,F,F,F,F,F,F,F,F,F,F,F,F,F,F,F,F,F,F] rfl rfl (any_of HT_.out (by kernel_rfl)) (fun _ _ _ h => h) (Or.inl ⟨by rfl, ?_⟩) ?_ ?_; rotate_left; exact zy; rotate_left; exact zput
      refine pure_ (i := 7) (N := some 42) (v := ?_) (a' := ?_) #[T,T,T,T,T,T,T,T,F,F,F,F,F,F,F,F,F,F,F,F,F,F,F,F,F,F] rfl rfl (any_of HT_.out (by kernel_rfl)) (fun _ _ _ h => h) (Or.inl ⟨by rfl, ?_⟩) ?_ ?_; rotate_left; exact zy; rotate_left; exact zput
      refine pure_ (i := 8) (N := some 43) (v := ?_) (a' := ?_) #[T,T,T,T,T,T,T,T,T,F,F,F,F,F,F,F,F,F,F,F,F,F,F,F,F,F] rfl rfl (any_of HT_.out (by kernel_rfl)) (fun _ _ _ h => h) (Or.inl ⟨by rfl, ?_⟩) ?_ ?_; rotate_left; exact zy; rotate_left; exact zput
      refine pure_ (i := 9) (N := some 44) (v := ?_) (a' := ?_) #[T,T,T,T,T,T,T,T,T,T,F,F,F,F,F,F,F,F,F,F,F,F,F,F,F,F] rfl rfl (any_of HT_.out (by kernel_rfl)) (fun _ _ _ h => h) (Or.inl ⟨by rfl, ?_⟩) ?_ ?_; rotate_left; exact zy; rotate_left; exact zput
      refine pure_ (i := 10) (N := some 45) (v := ?_) (a' := ?_) #[T,T,T,T,T,T,T,T,T,T,T,F,F,F,F,F,F,F,F,F,F,F,F,F,F,F] rfl rfl (any_of HT_.out (by kernel_rfl)) (fun _ _ _ h => h) (Or.inl ⟨by rfl, ?_⟩) ?_ ?_; rotate_left; exact zy; rotate_left; exact zput
      refine pure_ (i := 11) (N := some 46) (v := ?_) (a' := ?_) #[T,T,T,T,T,T,T,T,T,T,T,T,F,F,F,F,F,F,F,F,F,F,F,F,F,F] rfl rfl (any_of HT_.out (by kernel_rfl)) (fun _ _ _ h => h) (Or.inl ⟨by rfl, ?_⟩) ?_ ?_; rotate_left; exact zy; rotate_left; exact zput
      refine pure_ (i := 13) (N := some 48) (v := ?_) (a' := ?_) #[T,T,T,T,T,T,T,T,T,T,T,T,F,T,F,F,F,F,F,F,F,F,F,F,F,F] rfl rfl (any_of HT_.out (by kernel_rfl)) (fun _ _ _ h => h) (Or.inl ⟨by rfl, ?_⟩) ?_ ?_; rotate_left; exact zy; rotate_left; exact zput
      refine pure_ (i := 14) (N := some 49) (v := ?_) (a' := ?_) #[T,T,T,T,T,T,T,T,T,T,T,T,F,T,T,F,F,F,F,F,F,F,F,F,F,F] rfl rfl (any_of HT_.out (by kernel_rfl)) (fun _ _ _ h => h) (Or.inl ⟨by rfl, ?_⟩) ?_ ?_; rotate_left; exact zy; rotate_left; exact zput
      refine pure_ (i := 17) (N := some 52) (v := ?_) (a' := ?_) #[T,T,T,T,T,T,T,T,T,T,T,T,F,T,T,F,F,T,F,F,F,F,F,F,F,F] rfl rfl (any_of HT_.out (by kernel_rfl)) (fun _ _ _ h => h) (Or.inl ⟨by rfl, ?_⟩) ?_ ?_; rotate_left; exact zy; rotate_left; exact zput
      refine pure_ (i := 19) (N := some 54) (v := ?_) (a' := ?_) #[T,T,T,T,T,T,T,T,T,T,T,T,F,T,T,F,F,T,F,T,F,F,F,F,F,F] rfl rfl (any_of HT_.out (by kernel_rfl)) (fun _ _ _ h => h) (Or.inl ⟨by rfl, ?_⟩) ?_ ?_; rotate_left; exact zy; rotate_left; exact zput
      refine take_ (i := 12) (N := some 47) (v := ?_) (a' := ?_) #[T,T,T,T,T,T,T,T,T,T,T,T,T,T,T,F,F,T,F,T,F,F,F,F,F,F] rfl rfl (take_ofW HT_.out HW_.out (by kernel_rfl)) (fun _ _ _ h => h) (Or.inl ⟨by rfl, ?_⟩) hHeld ?_ ?_; rotate_left; exact zt26; rotate_left; exact zput
      refine pure_ (i := 15) (N := some 50) (v := ?_) (a' := ?_) #[T,T,T,T,T,T,T,T,T,T,T,T,T,T,T,T,F,T,F,T,F,F,F,F,F,F] rfl rfl (any_of HT_.out (by kernel_rfl)) (fun _ _ _ h => h) (Or.inl ⟨by rfl, ?_⟩) ?_ ?_; rotate_left; exact zy; rotate_left; exact zput
      refine take_ (i := 16) (N := some 51) (v := ?_) (a' := ?_) #[T,T,T,T,T,T,T,T,T,T,T,T,T,T,T,T,T,T,F,T,F,F,F,F,F,F] rfl rfl (take_ofW HT_.out HW_.out (by kernel_rfl)) (fun _ _ _ h => h) (Or.inl ⟨by rfl, ?_⟩) hHeld ?_ ?_; rotate_left; exact zt26; rotate_left; exact zput
      refine take_ (i := 18) (N := some 53) (v := ?_) (a' := ?_) #[T,T,T,T,T,T,T,T,T,T,T,T,T,T,T,T,T,T,T,T,F,F,F,F,F,F] rfl rfl (take_ofW HT_.out HW_.out (by kernel_rfl)) (fun _ _ _ h => h) (Or.inl ⟨by rfl, ?_⟩) hHeld ?_ ?_; rotate_left; exact zt26; rotate_left; exact zput
      refine pure_ (i := 20) (N := some 55) (v := ?_) (a' := ?_) #[T,T,T,T,T,T,T,T,T,T,T,T,T,T,T,T,T,T,T,T,T,F,F,F,F,F] rfl rfl (any_of HT_.out (by kernel_rfl)) (fun _ _ _ h => h) (Or.inl ⟨by rfl, ?_⟩) ?_ ?_; rotate_left; exact zy; rotate_left; exact zput
      refine take_ (i := 21) (N := some 56) (v := ?_) (a' := ?_) #[T,T,T,T,T,T,T,T,T,T,T,T,T,T,T,T,T,T,T,T,T,T,F,F,F,F] rfl rfl (take_ofW HT_.out HW_.out (by kernel_rfl)) (fun _ _ _ h => h) (Or.inl ⟨by rfl, ?_⟩) hHeld ?_ ?_; rotate_left; exact zt26; rotate_left; exact zput
      refine one_ (i := 22) (N := some 57) #[T,T,T,T,T,T,T,T,T,T,T,T,T,T,T,T,T,T,T,T,T,T,T,F,F,F] rfl rfl (one_of HT_.out (by kernel_rfl)) (by decide) (fun K hK => ?_)
      refine goes_ Try.func139 (by kernel_rfl) rfl #[.agg #[.int .i64 ((rd_T132 l0_2 (ji27)).f0), .int .i64 ((rd_T132 l0_2 (ji27)).f1), .int .i64 ((rd_T132 l0_2 (ji27)).f2), .int .i64 ((rd_T132 l0_2 (ji27)).f3), .int .i64 ((rd_T132 l0_2 (ji27)).f4), .int .i64 ((rd_T132 l0_2 (ji27)).f5), .bool ((rd_T132 l0_2 (ji27)).f6)], .agg #[.int .i64 ((rd_T132 l0_2 x3_2).f0), .int .i64 ((rd_T132 l0_2 x3_2).f1), .int .i64 ((rd_T132 l0_2 x3_2).f2), .int .i64 ((rd_T132 l0_2 x3_2).f3), .int .i64 ((rd_T132 l0_2 x3_2).f4), .int .i64 ((rd_T132 l0_2 x3_2).f5), .bool ((rd_T132 l0_2 x3_2).f6)]] (by rfl) rfl rfl (by (try simp only [List.map_toArray, List.map_cons, List.map_nil]); first | done | (simp only [hji27]; rfl) | rfl | (simp only [List.length_drop, List.length_take]; rfl)) ?_
      with_reducible refine (spec_l22Next.calls ((rd_T132 l0_2 (ji27)).f0) ((rd_T132 l0_2 (ji27)).f1) ((rd_T132 l0_2 (ji27)).f2) ((rd_T132 l0_2 (ji27)).f3) ((rd_T132 l0_2 (ji27)).f4) ((rd_T132 l0_2 (ji27)).f5) ((rd_T132 l0_2 (ji27)).f6) ((rd_T132 l0_2 x3_2).f0) ((rd_T132 l0_2 x3_2).f1) ((rd_T132 l0_2 x3_2).f2) ((rd_T132 l0_2 x3_2).f3) ((rd_T132 l0_2 x3_2).f4) ((rd_T132 l0_2 x3_2).f5) ((rd_T132 l0_2 x3_2).f6) false _ A30.out).mono ?_
      rintro e w39 ⟨rfl, hb⟩
      refine ⟨_, rfl, ?_⟩
      have n0_ := zb BK161 hb
      have n1_ := zA (below_step (zs1 HB GE161) hb)
      clear BK161 HB
      revert n0_ n1_
      intro BK161 HB
      (try clear hb)
      (try clear hb2)
      (try clear hk)
      (try clear hi)
      refine hK.out _ _ ⟨(blk_cell BK161.out 0).trans rfl, (blk_cell BK161.out 1).trans rfl, (blk_cell BK161.out 2).trans rfl, (blk_cell BK161.out 3).trans rfl, (blk_cell BK161.out 4).trans rfl, (zw HB hw165_0), (zw HB hw165_1), (zw HB hw165_2), (zw HB hw165_3), (zw HB hw165_4), (zw HB hw165_5), (zw HB hw165_6), (zw HB hw167_0), (zw HB hw167_1), (zw HB hw167_2), (zw HB hw167_3), (zw HB hw167_4), (zw HB hw167_5), (zw HB hw167_6), (zw HB hw168_0), (zw HB hw168_1), (zw HB hw168_2), (zw HB hw168_3), (zw HB hw168_4), (zw HB hw168_5), (zw HB hw168_6)⟩ (fun hHeld => ?_)
      clear hK K
      refine norm_ (a' := ?_) ?_ ?_
      rotate_left
      ·show Act.put _ (some 57) _ = _
       simp only [Act.put, List.setIfInBounds_toArray, List.set_cons_zero, List.set_cons_succ, i64_w, i32_w]
       rfl
      refine pure_ (i := 23) (N := some 58) (v := ?_) (a' := ?_) #[T,T,T,T,T,T,T,T,T,T,T,T,T,T,T,T,T,T,T,T,T,T,T,T,F,F] rfl rfl (any_of HT_.out (by kernel_rfl)) (fun _ _ _ h => h) (Or.inl ⟨by rfl, ?_⟩) ?_ ?_; rotate_left; exact zy; rotate_left; exact zput
      refine pure_ (i := 24) (N := some 59) (v := ?_) (a' := ?_) #[T,T,T,T,T,T,T,T,T,T,T,T,T,T,T,T,T,T,T,T,T,T,T,T,T,F] rfl rfl (any_of HT_.out (by kernel_rfl)) (fun _ _ _ h => h) (Or.inl ⟨by rfl, ?_⟩) ?_ ?_; rotate_left; exact zy; rotate_left; exact zput
      refine pure_ (i := 25) (N := some 60) (v := ?_) (a' := ?_) #[T,T,T,T,T,T,T,T,T,T,T,T,T,T,T,T,T,T,T,T,T,T,T,T,T,T] rfl rfl (any_of HT_.out (by kernel_rfl)) (fun _ _ _ h => h) (Or.inl ⟨by rfl, ?_⟩) ?_ ?_; rotate_left; exact zy; rotate_left; exact zput
      refine done_ (done_of HT_.out (by kernel_rfl)) ?_
      try go_wp2
      go_ret
      exact ⟨by first | rfl | (simp [errW_none, errW_some] <;> rfl) | (simp only [← hji27]; first | rfl | (simp [errW_none, errW_some] <;> rfl)) | (simp [*, errW_none, errW_some] <;> rfl), zs1 HB GE161⟩
     subst c31
     have H1 : (spec_FlyPathOk.l0 k2 (wrap64 (x3_2 + 1)) a0_0 a0_1 l0_2 a0_3 a0_4) = some r := by rw [if_pos rfl] at H; exact H
     clear H
     have H := H1
     clear H1
     have H' := zA H
     clear H
     obtain ⟨hcz32_0, hcz32_1, hcz32_2, hcz32_3, hcz32_4⟩ := zd5 BK161
     obtain ⟨hfz32_0, hfz32_1, hfz32_2, hfz32_3, hfz32_4⟩ := zn5 BK161
     try go_wp2
     have n0_ := zA (blk_drew BK161.out)
     have n1_ := zA (below_drew1 HB.out)
     clear BK161 HB
     revert n0_ n1_
     intro BK161 HB
     have p165 : 0 ≤ (x3_2 : Int) := za
     have q165 : x3_2 < (l0_2.length : Int) := za
     obtain ⟨ad165, e165, hx165_0, hx165_1, hx165_2, hx165_3, hx165_4, hx165_5, hx165_6⟩ := at_T132 HR0_2.out x3_2 p165 q165
     have hw165_6 := hx165_6
     have hw165_5 := hx165_5
     have hw165_4 := hx165_4
     have hw165_3 := hx165_3
     have hw165_2 := hx165_2
     have hw165_1 := hx165_1
     have hw165_0 := hx165_0
     cases e165
     replace hx165_0 := zx HB hx165_0
     replace hx165_1 := zx HB hx165_1
     replace hx165_2 := zx HB hx165_2
     replace hx165_3 := zx HB hx165_3
     replace hx165_4 := zx HB hx165_4
     replace hx165_5 := zx HB hx165_5
     replace hx165_6 := zx HB hx165_6
     replace p165 := eq_true p165
     replace q165 := eq_true q165
     have p167 : 0 ≤ ((ji27) : Int) := za
     have q167 : (ji27) < (l0_2.length : Int) := za
     obtain ⟨ad167, e167, hx167_0, hx167_1, hx167_2, hx167_3, hx167_4, hx167_5, hx167_6⟩ := at_T132 HR0_2.out (ji27) p167 q167
     have hw167_6 := hx167_6
     have hw167_5 := hx167_5
     have hw167_4 := hx167_4
     have hw167_3 := hx167_3
     have hw167_2 := hx167_2
     have hw167_1 := hx167_1
     have hw167_0 := hx167_0
     obtain rfl : ad165 = ad167 := (by injection e167)
     replace hx167_0 := zx HB hx167_0
     replace hx167_1 := zx HB hx167_1
     replace hx167_2 := zx HB hx167_2
     replace hx167_3 := zx HB hx167_3
     replace hx167_4 := zx HB hx167_4
     replace hx167_5 := zx HB hx167_5
     replace hx167_6 := zx HB hx167_6
     replace p167 := eq_true p167
     replace q167 := eq_true q167
     have p168 : 0 ≤ (x3_2 : Int) := za
     have q168 : x3_2 < (l0_2.length : Int) := za
     obtain ⟨ad168, e168, hx168_0, hx168_1, hx168_2, hx168_3, hx168_4, hx168_5, hx168_6⟩ := at_T132 HR0_2.out x3_2 p168 q168
     have hw168_6 := hx168_6
     have hw168_5 := hx168_5
     have hw168_4 := hx168_4
     have hw168_3 := hx168_3
     have hw168_2 := hx168_2
     have hw168_1 := hx168_1
     have hw168_0 := hx168_0
     obtain rfl : ad165 = ad168 := (by injection e168)
     replace hx168_0 := zx HB hx168_0
     replace hx168_1 := zx HB hx168_1
     replace hx168_2 := zx HB hx168_2
     replace hx168_3 := zx HB hx168_3
     replace hx168_4 := zx HB hx168_4
     replace hx168_5 := zx HB hx168_5
     replace hx168_6 := zx HB hx168_6
     replace p168 := eq_true p168
     replace q168 := eq_true q168
     refine start_ (n := 26) (S := fun w' => w'.cell? ⟨gb161, 0, none⟩ = some (.int .i64 a0_0) ∧ w'.cell? ⟨gb161, 1, none⟩ = some (.int .i64 a0_1) ∧ w'.cell? ⟨gb161, 2, none⟩ = some (.slice (some ad165) l0_2.length c0_2) ∧ w'.cell? ⟨gb161, 3, none⟩ = some (.int .i64 a0_3) ∧ w'.cell? ⟨gb161, 4, none⟩ = some (.int .i64 a0_4) ∧ w'.cell? (ad165.add ((x3_2).toNat * 7)) = some (.int .i64 ((rd_T132 l0_2 x3_2).f0)) ∧ w'.cell? ⟨(ad165.add ((x3_2).toNat * 7)).block, (ad165.add ((x3_2).toNat * 7)).off + 1, none⟩ = some (.int .i64 ((rd_T132 l0_2 x3_2).f1)) ∧ w'.cell? ⟨(ad165.add ((x3_2).toNat * 7)).block, (ad165.add ((x3_2).toNat * 7)).off + 2, none⟩ = some (.int .i64 ((rd_T132 l0_2 x3_2).f2)) ∧ w'.cell? ⟨(ad165.add ((x3_2).toNat * 7)).block, (ad165.add ((x3_2).toNat * 7)).off + 3, none⟩ = some (.int .i64 ((rd_T132 l0_2 x3_2).f3)) ∧ w'.cell? ⟨(ad165.add ((x3_2).toNat * 7)).block, (ad165.add ((x3_2).toNat * 7)).off + 4, none⟩ = some (.int .i64 ((rd_T132 l0_2 x3_2).f4)) ∧ w'.cell? ⟨(ad165.add ((x3_2).toNat * 7)).block, (ad165.add ((x3_2).toNat * 7)).off + 5, none⟩ = some (.int .i64 ((rd_T132 l0_2 x3_2).f5)) ∧ w'.cell? ⟨(ad165.add ((x3_2).toNat * 7)).block, (ad165.add ((x3_2).toNat * 7)).off + 6, none⟩ = some (.bool ((rd_T132 l0_2 x3_2).f6)) ∧ w'.cell? (ad165.add (((ji27)).toNat * 7)) = some (.int .i64 ((rd_T132 l0_2 (ji27)).f0)) ∧ w'.cell? ⟨(ad165.add (((ji27)).toNat * 7)).block, (ad165.add (((ji27)).toNat * 7)).off + 1, none⟩ = some (.int .i64 ((rd_T132 l0_2 (ji27)).f1)) ∧ w'.cell? ⟨(ad165.add (((ji27)).toNat * 7)).block, (ad165.add (((ji27)).toNat * 7)).off + 2, none⟩ = some (.int .i64 ((rd_T132 l0_2 (ji27)).f2)) ∧ w'.cell? ⟨(ad165.add (((ji27)).toNat * 7)).block, (ad165.add (((ji27)).toNat * 7)).off + 3, none⟩ = some (.int .i64 ((rd_T132 l0_2 (ji27)).f3)) ∧ w'.cell? ⟨(ad165.add (((ji27)).toNat * 7)).block, (ad165.add (((ji27)).toNat * 7)).off + 4, none⟩ = some (.int .i64 ((rd_T132 l0_2 (ji27)).f4)) ∧ w'.cell? ⟨(ad165.add (((ji27)).toNat * 7)).block, (ad165.add (((ji27)).toNat * 7)).off + 5, none⟩ = some (.int .i64 ((rd_T132 l0_2 (ji27)).f5)) ∧ w'.cell? ⟨(ad165.add (((ji27)).toNat * 7)).block, (ad165.add (((ji27)).toNat * 7)).off + 6, none⟩ = some (.bool ((rd_T132 l0_2 (ji27)).f6)) ∧ w'.cell? (ad165.add ((x3_2).toNat * 7)) = some (.int .i64 ((rd_T132 l0_2 x3_2).f0)) ∧ w'.cell? ⟨(ad165.add ((x3_2).toNat * 7)).block, (ad165.add ((x3_2).toNat * 7)).off + 1, none⟩ = some (.int .i64 ((rd_T132 l0_2 x3_2).f1)) ∧ w'.cell? ⟨(ad165.add ((x3_2).toNat * 7)).block, (ad165.add ((x3_2).toNat * 7)).off + 2, none⟩ = some (.int .i64 ((rd_T132 l0_2 x3_2).f2)) ∧ w'.cell? ⟨(ad165.add ((x3_2).toNat * 7)).block, (ad165.add ((x3_2).toNat * 7)).off + 3, none⟩ = some (.int .i64 ((rd_T132 l0_2 x3_2).f3)) ∧ w'.cell? ⟨(ad165.add ((x3_2).toNat * 7)).block, (ad165.add ((x3_2).toNat * 7)).off + 4, none⟩ = some (.int .i64 ((rd_T132 l0_2 x3_2).f4)) ∧ w'.cell? ⟨(ad165.add ((x3_2).toNat * 7)).block, (ad165.add ((x3_2).toNat * 7)).off + 5, none⟩ = some (.int .i64 ((rd_T132 l0_2 x3_2).f5)) ∧ w'.cell? ⟨(ad165.add ((x3_2).toNat * 7)).block, (ad165.add ((x3_2).toNat * 7)).off + 6, none⟩ = some (.bool ((rd_T132 l0_2 x3_2).f6))) (ds := []) #[F,F,F,F,F,F,F,F,F,F,F,F,F,F,F,F,F,F,F,F,F,F,F,F,F,F] (by kernel_rfl) rfl rfl ⟨(blk_cell BK161.out 0).trans rfl, (blk_cell BK161.out 1).trans rfl, (blk_cell BK161.out 2).trans rfl, (blk_cell BK161.out 3).trans rfl, (blk_cell BK161.out 4).trans rfl, (zw HB hw165_0), (zw HB hw165_1), (zw HB hw165_2), (zw HB hw165_3), (zw HB hw165_4), (zw HB hw165_5), (zw HB hw165_6), (zw HB hw167_0), (zw HB hw167_1), (zw HB hw167_2), (zw HB hw167_3), (zw HB hw167_4), (zw HB hw167_5), (zw HB hw167_6), (zw HB hw168_0), (zw HB hw168_1), (zw HB hw168_2), (zw HB hw168_3), (zw HB hw168_4), (zw HB hw168_5), (zw HB hw168_6)⟩ (fun hHeld => ?_); refine with_tabW spec_FlyPathOk.tab6 spec_FlyPathOk.bits6 (fun HT_ HW_ => ?_)
     generalize wr.drew = w33 at BK161 HB hx165_0 hx165_1 hx165_2 hx165_3 hx165_4 hx165_5 hx165_6 hx167_0 hx167_1 hx167_2 hx167_3 hx167_4 hx167_5 hx167_6 hx168_0 hx168_1 hx168_2 hx168_3 hx168_4 hx168_5 hx168_6 hHeld ⊢
     refine pure_ (i := 0) (N := some 35) (v := ?_) (a' := ?_) #[T,F,F,F,F,F,F,F,F,F,F,F,F,F,F,F,F,F,F,F,F,F,F,F,F,F] rfl rfl (any_of HT_.out (by kernel_rfl)) (fun _ _ _ h => h) (Or.inl ⟨by rfl, ?_⟩) ?_ ?_; rotate_left; exact zy; rotate_left; exact zput
     refine pure_ (i := 2) (N := some 37) (v := ?_) (a' := ?_) #[T,F,T,F,F,F,F,F,F,F,F,F,F,F,F,F,F,F,F,F,F,F,F,F,F,F] rfl rfl (any_of HT_.out (by kernel_rfl)) (fun _ _ _ h => h) (Or.inl ⟨by rfl, ?_⟩) ?_ ?_; rotate_left; exact zy; rotate_left; exact zput
     refine take_ (i := 1) (N := some 36) (v := ?_) (a' := ?_) #[T,T,T,F,F,F,F,F,F,F,F,F,F,F,F,F,F,F,F,F,F,F,F,F,F,F] rfl rfl (take_ofW HT_.out HW_.out (by kernel_rfl)) (fun _ _ _ h => h) (Or.inl ⟨by rfl, ?_⟩) hHeld ?_ ?_; rotate_left; exact zt26; rotate_left; exact zput
     refine pure_ (i := 3) (N := some 38) (v := ?_) (a' := ?_) #[T,T,T,T,F,F,F,F,F,F,F,F,F,F,F,F,F,F,F,F,F,F,F,F,F,F] rfl rfl (any_of HT_.out (by kernel_rfl)) (fun _ _ _ h => h) (Or.inl ⟨by rfl, ?_⟩) ?_ ?_; rotate_left; exact zy; rotate_left; exact zput
     refine take_ (i := 4) (N := some 39) (v := ?_) (a' := ?_) #[T,T,T,T,T,F,F,F,F,F,F,F,F,F,F,F,F,F,F,F,F,F,F,F,F,F] rfl rfl (take_ofW HT_.out HW_.out (by kernel_rfl)) (fun _ _ _ h => h) (Or.inl ⟨by rfl, ?_⟩) hHeld ?_ ?_; rotate_left; exact zt26; rotate_left; exact zput
     refine one_ (i := 5) (N := some 40) #[T,T,T,T,T,T,F,F,F,F,F,F,F,F,F,F,F,F,F,F,F,F,F,F,F,F] rfl rfl (one_of HT_.out (by kernel_rfl)) (by decide) (fun K hK => ?_)
     refine goes_ Try.func138 (by kernel_rfl) rfl #[.agg #[.int .i64 ((rd_T132 l0_2 x3_2).f0), .int .i64 ((rd_T132 l0_2 x3_2).f1), .int .i64 ((rd_T132 l0_2 x3_2).f2), .int .i64 ((rd_T132 l0_2 x3_2).f3), .int .i64 ((rd_T132 l0_2 x3_2).f4), .int .i64 ((rd_T132 l0_2 x3_2).f5), .bool ((rd_T132 l0_2 x3_2).f6)]] (by rfl) rfl rfl zl ?_
     with_reducible refine (spec_l22StepOk.calls ((rd_T132 l0_2 x3_2).f0) ((rd_T132 l0_2 x3_2).f1) ((rd_T132 l0_2 x3_2).f2) ((rd_T132 l0_2 x3_2).f3) ((rd_T132 l0_2 x3_2).f4) ((rd_T132 l0_2 x3_2).f5) ((rd_T132 l0_2 x3_2).f6) true _ A24.out).mono ?_
     rintro e w34 ⟨rfl, hb⟩
     refine ⟨_, rfl, ?_⟩
     have n0_ := zb BK161 hb
     have n1_ := zA (below_step (zs1 HB GE161) hb)
     clear BK161 HB
     revert n0_ n1_
     intro BK161 HB
     (try clear hb)
     (try clear hb2)
     (try clear hk)
     (try clear hi)
     refine hK.out _ _ ⟨(blk_cell BK161.out 0).trans rfl, (blk_cell BK161.out 1).trans rfl, (blk_cell BK161.out 2).trans rfl, (blk_cell BK161.out 3).trans rfl, (blk_cell BK161.out 4).trans rfl, (zw HB hw165_0), (zw HB hw165_1), (zw HB hw165_2), (zw HB hw165_3), (zw HB hw165_4), (zw HB hw165_5), (zw HB hw165_6), (zw HB hw167_0), (zw HB hw167_1), (zw HB hw167_2), (zw HB hw167_3), (zw HB hw167_4), (zw HB hw167_5), (zw HB hw167_6), (zw HB hw168_0), (zw HB hw168_1), (zw HB hw168_2), (zw HB hw168_3), (zw HB hw168_4), (zw HB hw168_5), (zw HB hw168_6)⟩ (fun hHeld => ?_)
     clear hK K
     refine norm_ (a' := ?_) ?_ ?_
     rotate_left
     ·show Act.put _ (some 40) _ = _
      simp only [Act.put, List.setIfInBounds_toArray, List.set_cons_zero, List.set_cons_succ, i64_w, i32_w]
      rfl
     refine pure_ (i := 6) (N := some 41) (v := ?_) (a' := ?_) #[T,T,T,T,T,T,T,F,F,F,F,F,F,F,F,F,F,F,F,F,F,F,F,F,F,F] rfl rfl (any_of HT_.out (by kernel_rfl)) (fun _ _ _ h => h) (Or.inl ⟨by rfl, ?_⟩) ?_ ?_; rotate_left; exact zy; rotate_left; exact zput
     refine pure_ (i := 7) (N := some 42) (v := ?_) (a' := ?_) #[T,T,T,T,T,T,T,T,F,F,F,F,F,F,F,F,F,F,F,F,F,F,F,F,F,F] rfl rfl (any_of HT_.out (by kernel_rfl)) (fun _ _ _ h => h) (Or.inl ⟨by rfl, ?_⟩) ?_ ?_; rotate_left; exact zy; rotate_left; exact zput
     refine pure_ (i := 8) (N := some 43) (v := ?_) (a' := ?_) #[T,T,T,T,T,T,T,T,T,F,F,F,F,F,F,F,F,F,F,F,F,F,F,F,F,F] rfl rfl (any_of HT_.out (by kernel_rfl)) (fun _ _ _ h => h) (Or.inl ⟨by rfl, ?_⟩) ?_ ?_; rotate_left; exact zy; rotate_left; exact zput
     refine pure_ (i := 9) (N := some 44) (v := ?_) (a' := ?_) #[T,T,T,T,T,T,T,T,T,T,F,F,F,F,F,F,F,F,F,F,F,F,F,F,F,F] rfl rfl (any_of HT_.out (by kernel_rfl)) (fun _ _ _ h => h) (Or.inl ⟨by rfl, ?_⟩) ?_ ?_; rotate_left; exact zy; rotate_left; exact zput
     refine pure_ (i := 10) (N := some 45) (v := ?_) (a' := ?_) #[T,T,T,T,T,T,T,T,T,T,T,F,F,F,F,F,F,F,F,F,F,F,F,F,F,F] rfl rfl (any_of HT_.out (by kernel_rfl)) (fun _ _ _ h => h) (Or.inl ⟨by rfl, ?_⟩) ?_ ?_; rotate_left; exact zy; rotate_left; exact zput
     refine pure_ (i := 11) (N := some 46) (v := ?_) (a' := ?_) #[T,T,T,T,T,T,T,T,T,T,T,T,F,F,F,F,F,F,F,F,F,F,F,F,F,F] rfl rfl (any_of HT_.out (by kernel_rfl)) (fun _ _ _ h => h) (Or.inl ⟨by rfl, ?_⟩) ?_ ?_; rotate_left; exact zy; rotate_left; exact zput
     refine pure_ (i := 13) (N := some 48) (v := ?_) (a' := ?_) #[T,T,T,T,T,T,T,T,T,T,T,T,F,T,F,F,F,F,F,F,F,F,F,F,F,F] rfl rfl (any_of HT_.out (by kernel_rfl)) (fun _ _ _ h => h) (Or.inl ⟨by rfl, ?_⟩) ?_ ?_; rotate_left; exact zy; rotate_left; exact zput
     refine pure_ (i := 14) (N := some 49) (v := ?_) (a' := ?_) #[T,T,T,T,T,T,T,T,T,T,T,T,F,T,T,F,F,F,F,F,F,F,F,F,F,F] rfl rfl (any_of HT_.out (by kernel_rfl)) (fun _ _ _ h => h) (Or.inl ⟨by rfl, ?_⟩) ?_ ?_; rotate_left; exact zy; rotate_left; exact zput
     refine pure_ (i := 17) (N := some 52) (v := ?_) (a' := ?_) #[T,T,T,T,T,T,T,T,T,T,T,T,F,T,T,F,F,T,F,F,F,F,F,F,F,F] rfl rfl (any_of HT_.out (by kernel_rfl)) (fun _ _ _ h => h) (Or.inl ⟨by rfl, ?_⟩) ?_ ?_; rotate_left; exact zy; rotate_left; exact zput
     refine pure_ (i := 19) (N := some 54) (v := ?_) (a' := ?_) #[T,T,T,T,T,T,T,T,T,T,T,T,F,T,T,F,F,T,F,T,F,F,F,F,F,F] rfl rfl (any_of HT_.out (by kernel_rfl)) (fun _ _ _ h => h) (Or.inl ⟨by rfl, ?_⟩) ?_ ?_; rotate_left; exact zy; rotate_left; exact zput
     refine take_ (i := 12) (N := some 47) (v := ?_) (a' := ?_) #[T,T,T,T,T,T,T,T,T,T,T,T,T,T,T,F,F,T,F,T,F,F,F,F,F,F] rfl rfl (take_ofW HT_.out HW_.out (by kernel_rfl)) (fun _ _ _ h => h) (Or.inl ⟨by rfl, ?_⟩) hHeld ?_ ?_; rotate_left; exact zt26; rotate_left; exact zput
     refine pure_ (i := 15) (N := some 50) (v := ?_) (a' := ?_) #[T,T,T,T,T,T,T,T,T,T,T,T,T,T,T,T,F,T,F,T,F,F,F,F,F,F] rfl rfl (any_of HT_.out (by kernel_rfl)) (fun _ _ _ h => h) (Or.inl ⟨by rfl, ?_⟩) ?_ ?_; rotate_left; exact zy; rotate_left; exact zput
     refine take_ (i := 16) (N := some 51) (v := ?_) (a' := ?_) #[T,T,T,T,T,T,T,T,T,T,T,T,T,T,T,T,T,T,F,T,F,F,F,F,F,F] rfl rfl (take_ofW HT_.out HW_.out (by kernel_rfl)) (fun _ _ _ h => h) (Or.inl ⟨by rfl, ?_⟩) hHeld ?_ ?_; rotate_left; exact zt26; rotate_left; exact zput
     refine take_ (i := 18) (N := some 53) (v := ?_) (a' := ?_) #[T,T,T,T,T,T,T,T,T,T,T,T,T,T,T,T,T,T,T,T,F,F,F,F,F,F] rfl rfl (take_ofW HT_.out HW_.out (by kernel_rfl)) (fun _ _ _ h => h) (Or.inl ⟨by rfl, ?_⟩) hHeld ?_ ?_; rotate_left; exact zt26; rotate_left; exact zput
     refine pure_ (i := 20) (N := some 55) (v := ?_) (a' := ?_) #[T,T,T,T,T,T,T,T,T,T,T,T,T,T,T,T,T,T,T,T,T,F,F,F,F,F] rfl rfl (any_of HT_.out (by kernel_rfl)) (fun _ _ _ h => h) (Or.inl ⟨by rfl, ?_⟩) ?_ ?_; rotate_left; exact zy; rotate_left; exact zput
     refine take_ (i := 21) (N := some 56) (v := ?_) (a' := ?_) #[T,T,T,T,T,T,T,T,T,T,T,T,T,T,T,T,T,T,T,T,T,T,F,F,F,F] rfl rfl (take_ofW HT_.out HW_.out (by kernel_rfl)) (fun _ _ _ h => h) (Or.inl ⟨by rfl, ?_⟩) hHeld ?_ ?_; rotate_left; exact zt26; rotate_left; exact zput
     refine one_ (i := 22) (N := some 57) #[T,T,T,T,T,T,T,T,T,T,T,T,T,T,T,T,T,T,T,T,T,T,T,F,F,F] rfl rfl (one_of HT_.out (by kernel_rfl)) (by decide) (fun K hK => ?_)
     refine goes_ Try.func139 (by kernel_rfl) rfl #[.agg #[.int .i64 ((rd_T132 l0_2 (ji27)).f0), .int .i64 ((rd_T132 l0_2 (ji27)).f1), .int .i64 ((rd_T132 l0_2 (ji27)).f2), .int .i64 ((rd_T132 l0_2 (ji27)).f3), .int .i64 ((rd_T132 l0_2 (ji27)).f4), .int .i64 ((rd_T132 l0_2 (ji27)).f5), .bool ((rd_T132 l0_2 (ji27)).f6)], .agg #[.int .i64 ((rd_T132 l0_2 x3_2).f0), .int .i64 ((rd_T132 l0_2 x3_2).f1), .int .i64 ((rd_T132 l0_2 x3_2).f2), .int .i64 ((rd_T132 l0_2 x3_2).f3), .int .i64 ((rd_T132 l0_2 x3_2).f4), .int .i64 ((rd_T132 l0_2 x3_2).f5), .bool ((rd_T132 l0_2 x3_2).f6)]] (by rfl) rfl rfl (by (try simp only [List.map_toArray, List.map_cons, List.map_nil]); first | done | (simp only [hji27]; rfl) | rfl | (simp only [List.length_drop, List.length_take]; rfl)) ?_
     with_reducible refine (spec_l22Next.calls ((rd_T132 l0_2 (ji27)).f0) ((rd_T132 l0_2 (ji27)).f1) ((rd_T132 l0_2 (ji27)).f2) ((rd_T132 l0_2 (ji27)).f3) ((rd_T132 l0_2 (ji27)).f4) ((rd_T132 l0_2 (ji27)).f5) ((rd_T132 l0_2 (ji27)).f6) ((rd_T132 l0_2 x3_2).f0) ((rd_T132 l0_2 x3_2).f1) ((rd_T132 l0_2 x3_2).f2) ((rd_T132 l0_2 x3_2).f3) ((rd_T132 l0_2 x3_2).f4) ((rd_T132 l0_2 x3_2).f5) ((rd_T132 l0_2 x3_2).f6) true _ A30.out).mono ?_
     rintro e w35 ⟨rfl, hb⟩
     refine ⟨_, rfl, ?_⟩
     have n0_ := zb BK161 hb
     have n1_ := zA (below_step (zs1 HB GE161) hb)
     clear BK161 HB
     revert n0_ n1_
     intro BK161 HB
     (try clear hb)
     (try clear hb2)
     (try clear hk)
     (try clear hi)
     refine hK.out _ _ ⟨(blk_cell BK161.out 0).trans rfl, (blk_cell BK161.out 1).trans rfl, (blk_cell BK161.out 2).trans rfl, (blk_cell BK161.out 3).trans rfl, (blk_cell BK161.out 4).trans rfl, (zw HB hw165_0), (zw HB hw165_1), (zw HB hw165_2), (zw HB hw165_3), (zw HB hw165_4), (zw HB hw165_5), (zw HB hw165_6), (zw HB hw167_0), (zw HB hw167_1), (zw HB hw167_2), (zw HB hw167_3), (zw HB hw167_4), (zw HB hw167_5), (zw HB hw167_6), (zw HB hw168_0), (zw HB hw168_1), (zw HB hw168_2), (zw HB hw168_3), (zw HB hw168_4), (zw HB hw168_5), (zw HB hw168_6)⟩ (fun hHeld => ?_)
     clear hK K
     refine norm_ (a' := ?_) ?_ ?_
     rotate_left
     ·show Act.put _ (some 57) _ = _
      simp only [Act.put, List.setIfInBounds_toArray, List.set_cons_zero, List.set_cons_succ, i64_w, i32_w]
      rfl
     refine pure_ (i := 23) (N := some 58) (v := ?_) (a' := ?_) #[T,T,T,T,T,T,T,T,T,T,T,T,T,T,T,T,T,T,T,T,T,T,T,T,F,F] rfl rfl (any_of HT_.out (by kernel_rfl)) (fun _ _ _ h => h) (Or.inl ⟨by rfl, ?_⟩) ?_ ?_; rotate_left; exact zy; rotate_left; exact zput
     refine pure_ (i := 24) (N := some 59) (v := ?_) (a' := ?_) #[T,T,T,T,T,T,T,T,T,T,T,T,T,T,T,T,T,T,T,T,T,T,T,T,T,F] rfl rfl (any_of HT_.out (by kernel_rfl)) (fun _ _ _ h => h) (Or.inl ⟨by rfl, ?_⟩) ?_ ?_; rotate_left; exact zy; rotate_left; exact zput
     refine pure_ (i := 25) (N := some 60) (v := ?_) (a' := ?_) #[T,T,T,T,T,T,T,T,T,T,T,T,T,T,T,T,T,T,T,T,T,T,T,T,T,T] rfl rfl (any_of HT_.out (by kernel_rfl)) (fun _ _ _ h => h) (Or.inl ⟨by rfl, ?_⟩) ?_ ?_; rotate_left; exact zy; rotate_left; exact zput
     refine done_ (done_of HT_.out (by kernel_rfl)) ?_
     try go_wp2
     go_roundg k2
     case measure => have := HJ1.out; have := HK2.out; omega
     case rel => exact ⟨(wrap64 (x3_2 + 1)), zi, H', ⟨by have := HJ1.out; have := HK2.out; omega⟩, ⟨zh BK161⟩, ⟨zs1 HB GE161⟩⟩
end Go.Proofs.Ytbmplfpnhjhoiaa.QFnExactFlyTube
