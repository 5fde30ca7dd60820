/- The walk of what the law FnExactFlyShift reaches: laid by a program of this session (ownprint.py). -/
import Derived.Test.YtidenmcoilmbcaaQFnExactFlyShiftx0
import Derived.Test.YtidenmcoilmbcaaQFnExactFlyShiftx3
import Derived.Test.YtidenmcoilmbcaaQFnExactFlyShiftx4
import Derived.Test.YtidenmcoilmbcaaQFnExactFlyShiftx5
namespace Go.Proofs.Ytidenmcoilmbcaa.QFnExactFlyShift
open Go.RowKit Go.Proofs.YtidenmcoilmbcaaW.PrintWords Go.Proofs.YtidenmcoilmbcaaW.PrintLast Go.Proofs.YtidenmcoilmbcaaW.PrintMore Go.Proofs.Ytidenmcoilmbcaa.Z
attribute [local go_sem] max2_int min2_int max_two min_two max_three min_three max_four min_four zdn   -- for this text's walks alone
set_option linter.unusedVariables false
set_option linter.unusedSimpArgs false
mutual
def spec_FlyShift.j0 : Nat → Int → Bool → Int → Int → List (S88) → Int → Int → Option (Int × Int × (List (S88)) × Int × Int × Bool)
 | 0, _, _, _, _, _, _, _ => none
 | k + 1, x1, x15, x179000, x179001, x179002, x179003, x179004 => if x15 = true then (some (0, 0, ([] : List (S88)), 0, 0, false)) else ((spec_l22Copy.f x179000 x179001 x179002 x179003 x179004).bind fun bt182 => (spec_FlyShift.l0 k x1 0 bt182.1 bt182.2.1 bt182.2.2.1 bt182.2.2.2.1 bt182.2.2.2.2))
def spec_FlyShift.l0 : Nat → Int → Int → Int → Int → List (S88) → Int → Int → Option (Int × Int × (List (S88)) × Int × Int × Bool)
 | 0, _, _, _, _, _, _, _ => none
 | k + 1, x1, x7, x190000, x190001, x190002, x190003, x190004 => if x7 < (x190002.length : Int) then (if 0 ≤ x7 then ((some (x190002.set (x7 : Int).toNat (⟨(rd_T88 x190002 x7).f0, (rd_T88 x190002 x7).f1, (rd_T88 x190002 x7).f2, (rd_T88 x190002 x7).f3, wrap64 (((rd_T88 x190002 x7).f4) + x1), (rd_T88 x190002 x7).f5, (rd_T88 x190002 x7).f6⟩ : S88) : List (S88))).bind fun y191 => (spec_FlyShift.l0 k x1 (wrap64 (x7 + 1)) x190000 x190001 (y191.set (x7 : Int).toNat (⟨(rd_T88 y191 x7).f0, (rd_T88 y191 x7).f1, (rd_T88 y191 x7).f2, (rd_T88 y191 x7).f3, (rd_T88 y191 x7).f4, wrap64 (((rd_T88 y191 x7).f5) + x1), (rd_T88 y191 x7).f6⟩ : S88)) x190003 x190004)) else (none)) else ((spec_FlyPathOk.f k x190000 x190001 x190002 (wrap64 (x190003 + x1)) (wrap64 (x190004 + x1))).bind fun t194 => (if t194 = true then (some (x190000, x190001, x190002, wrap64 (x190003 + x1), wrap64 (x190004 + x1), true)) else (some (0, 0, ([] : List (S88)), 0, 0, false))))
end
def spec_FlyShift.f (k : Nat) (a0_0 : Int) (a0_1 : Int) (l0_2 : List (S88)) (a0_3 : Int) (a0_4 : Int) (a1 : Int) : Option (Int × Int × (List (S88)) × Int × Int × Bool) := (spec_FlyPathOk.f k a0_0 a0_1 l0_2 a0_3 a0_4).bind fun t180 => (if t180 = true then ((spec_l21In.f a1 (-10000) 10000).bind fun t181 => (spec_FlyShift.j0 k a1 (!t181) a0_0 a0_1 l0_2 a0_3 a0_4)) else (spec_FlyShift.j0 k a1 true a0_0 a0_1 l0_2 a0_3 a0_4))
def spec_FlyShift.T7 : Bool × List (List Nat × List Nat) := (true, [([], []), ([0], [0]), ([], []), ([], []), ([3], [3]), ([], []), ([4, 5], [4, 5]), ([6], [6]), ([7], [7]), ([], []), ([8, 9], [8, 9]), ([1, 2, 0, 1, 2, 3, 4, 5, 6, 7, 8, 9, 10], [1, 2]), ([11, 0, 1, 2, 3, 4, 5, 6, 7, 8, 9, 10], [11]), ([12, 10, 0, 1, 2, 3, 4, 5, 6, 7, 8, 9, 10], [10, 12])])
def spec_FlyShift.B7 : List Nat := [0, 1, 0, 0, 8, 0, 56, 120, 248, 0, 1016, 2047, 4095, 8191]
theorem spec_FlyShift.tab7 : rtab .any (opsOf Try.f35 7) = spec_FlyShift.T7 := by kernel_rfl
theorem spec_FlyShift.bits7 : waitsOk spec_FlyShift.T7.2 spec_FlyShift.B7 = true := by kernel_rfl
def spec_FlyShift.T8 : Bool × List (List Nat × List Nat) := (true, [([], []), ([0], [0]), ([], []), ([], []), ([3], [3]), ([], []), ([4, 5], [4, 5]), ([6], [6]), ([7], [7]), ([], []), ([8, 9], [8, 9]), ([1, 2, 0, 1, 2, 3, 4, 5, 6, 7, 8, 9, 10], [1, 2]), ([11, 0, 1, 2, 3, 4, 5, 6, 7, 8, 9, 10], [11]), ([12, 10, 0, 1, 2, 3, 4, 5, 6, 7, 8, 9, 10], [10, 12])])
def spec_FlyShift.B8 : List Nat := [0, 1, 0, 0, 8, 0, 56, 120, 248, 0, 1016, 2047, 4095, 8191]
theorem spec_FlyShift.tab8 : rtab .any (opsOf Try.f35 8) = spec_FlyShift.T8 := by kernel_rfl
theorem spec_FlyShift.bits8 : waitsOk spec_FlyShift.T8.2 spec_FlyShift.B8 = true := by kernel_rfl
set_option maxHeartbeats 8000000 in
set_option maxRecDepth 100000 in
theorem spec_FlyShift.calls (k : Nat) (a0_0 : Int) (a0_1 : Int) (A0_2 : Option Addr) (c0_2 : Nat) (l0_2 : List (S88)) (a0_3 : Int) (a0_4 : Int) (a1 : Int) (r1 : Int) (r2 : Int) (r3 : List (S88)) (r4 : Int) (r5 : Int) (r6 : Bool) (w : World) (hr0_2 : Kd.C k88 w A0_2 l0_2.length l0_2) (hc0_2 : l0_2.length ≤ c0_2) (h : spec_FlyShift.f k a0_0 a0_1 l0_2 a0_3 a0_4 a1 = some (r1, r2, r3, r4, r5, r6)) :
 Calls Try.prog 35 #[.agg #[.int .i64 a0_0, .int .i64 a0_1, .slice A0_2 l0_2.length c0_2, .int .i64 a0_3, .int .i64 a0_4], .int .i64 a1] w fun e w' => ∃ v2_ : Value, e = .returned (.tuple #[.agg #[.int .i64 r1, .int .i64 r2, v2_, .int .i64 r4, .int .i64 r5], .bool r6]) ∧ Kd.R k88 88 w' w.heap.size (fun _ => True) v2_ r3 ∧ Below w.heap.size w w' := by
 have hu34 := Try.underlying34
 have HR0_2 := Aside0.mk hr0_2
 have HC0_2 := Aside0.mk hc0_2
 clear hr0_2 hc0_2
 have HB := Aside0.mk (Below.refl w.heap.size w)
 have H : ((spec_FlyPathOk.f k a0_0 a0_1 l0_2 a0_3 a0_4).bind fun t180 => (if t180 = true then ((spec_l21In.f a1 (-10000) 10000).bind fun t181 => (spec_FlyShift.j0 k a1 (!t181) a0_0 a0_1 l0_2 a0_3 a0_4)) else (spec_FlyShift.j0 k a1 true a0_0 a0_1 l0_2 a0_3 a0_4))) = some (r1, r2, r3, r4, r5, r6) := h
 clear h
 have HC3 := Aside0.mk H
 clear H
 go_enter Try.func35, Try.ntmps35
 go_upto_region 1 with (first | ((with_reducible refine gate_dst (N := 2) rfl ?_); refine box_event (by rfl) (N := 2) (by rfl) (cs := #[.int .i64 a0_0, .int .i64 a0_1, .slice A0_2 l0_2.length c0_2, .int .i64 a0_3, .int .i64 a0_4]) (t := 34) zg ?_; intro gb178 hg w4 hbox hb; have n0_ := Aside0.mk (below_step (zs0 HB) hb); have n1_ := Aside0.mk (hbox); have n2_ := Aside0.mk ((by rw [hg]; exact (below_size (zs0 HB)) : w.heap.size ≤ gb178)); have n3_ := Aside0.mk ((by rw [hg]; exact (below_size (zs0 HB)) : w.heap.size ≤ gb178)); clear HB; have HB := n0_; have BK178 := n1_; have GW178 := n2_; have GE178 := n3_; clear n0_ n1_ n2_ n3_; clear hb hbox hg) | ((with_reducible refine gate_dst (N := 4) rfl ?_); refine box_event (by rfl) (N := 4) (by rfl) (cs := #[.int .i64 0, .int .i64 0, .slice none 0 0, .int .i64 0, .int .i64 0]) (t := 34) zg ?_; intro gb179 hg w5 hbox hb; have n0_ := zb BK178 hb; have n1_ := Aside0.mk (below_step (zs1 HB GE178) hb); have n2_ := Aside0.mk (hbox); have n3_ := Aside0.mk ((by rw [hg]; exact (below_size (zs1 HB GE178)) : w.heap.size ≤ gb179)); have n4_ := Aside0.mk ((by rw [hg]; exact (below_size (zs1 HB GE178)) : w.heap.size ≤ gb179)); have n5_ := Aside0.mk ((by rw [hg]; exact Nat.ne_of_lt (blk_lt (g := gb178) (o := .cells #[.int .i64 a0_0, .int .i64 a0_1, .slice A0_2 l0_2.length c0_2, .int .i64 a0_3, .int .i64 a0_4] 34 (0, 0)) (zh BK178)) : gb178 ≠ gb179)); have n6_ := Aside0.mk ((by rw [hg]; exact Nat.ne_of_gt (blk_lt (g := gb178) (o := .cells #[.int .i64 a0_0, .int .i64 a0_1, .slice A0_2 l0_2.length c0_2, .int .i64 a0_3, .int .i64 a0_4] 34 (0, 0)) (zh BK178)) : gb179 ≠ gb178)); clear BK178; clear HB; have BK178 := n0_; have HB := n1_; have BK179 := n2_; have GW179 := n3_; have GE179 := n4_; have NB178_179 := n5_; have NB179_178 := n6_; clear n0_ n1_ n2_ n3_ n4_ n5_ n6_; clear hb hbox hg))
 (try simp only [Act.put, List.setIfInBounds_toArray, List.set_cons_zero, List.set_cons_succ])
 go_cut [15] (fun v15 wc => ∃ (kq : Nat) (x15_2 : Bool), v15 = .bool x15_2 ∧ Aside0 (spec_FlyShift.j0 kq a1 x15_2 a0_0 a0_1 l0_2 a0_3 a0_4 = some (r1, r2, r3, r4, r5, r6)) ∧ Aside0 (kq ≤ k) ∧ Aside0 (wc.heap[gb178]? = some (.cells #[.int .i64 a0_0, .int .i64 a0_1, (.slice A0_2 l0_2.length c0_2), .int .i64 a0_3, .int .i64 a0_4] 34 (0, 0))) ∧ Aside0 (wc.heap[gb179]? = some (.cells #[.int .i64 0, .int .i64 0, (.slice none 0 0), .int .i64 0, .int .i64 0] 34 (0, 0))) ∧ Aside0 (Below w.heap.size w wc))
 case first =>
  have H := HC3.out
  clear HC3
  replace H := Option.bind_eq_some_iff.mp H
  obtain ⟨t180, A60, H⟩ := H
  replace H : (if t180 = true then ((spec_l21In.f a1 (-10000) 10000).bind fun t181 => (spec_FlyShift.j0 k a1 (!t181) a0_0 a0_1 l0_2 a0_3 a0_4)) else (spec_FlyShift.j0 k a1 true a0_0 a0_1 l0_2 a0_3 a0_4)) = some (r1, r2, r3, r4, r5, r6) := H
  have A6 := Aside0.mk A60
  clear A60
  by_cases c7 : t180 = true
  rotate_left
  ·replace c7 := Bool.eq_false_iff.mpr c7
   subst c7
   have H1 : (spec_FlyShift.j0 k a1 true a0_0 a0_1 l0_2 a0_3 a0_4) = some (r1, r2, r3, r4, r5, r6) := by rw [if_neg (show ¬ (false = true) by decide)] at H; exact H
   clear H
   have H := H1
   clear H1
   have H' := Aside0.mk H
   clear H
   have hnb12 := NB178_179.out
   have hnc12 := NB179_178.out
   obtain ⟨hcz13_0, hcz13_1, hcz13_2, hcz13_3, hcz13_4⟩ := zd5 BK178
   obtain ⟨hfz13_0, hfz13_1, hfz13_2, hfz13_3, hfz13_4⟩ := zn5 BK178
   go_wp2_with (first | ((with_reducible refine gate_callee (f := 32) rfl ?_); refine goesL_ (some 9) rfl rfl Try.func32 (by kernel_rfl) rfl #[.agg #[.int .i64 a0_0, .int .i64 a0_1, .slice A0_2 l0_2.length c0_2, .int .i64 a0_3, .int .i64 a0_4]] rfl zl ?_; (with_reducible refine (spec_FlyPathOk.calls k a0_0 a0_1 _ _ l0_2 a0_3 a0_4 false _ ?side1 ?side2 A6.out).mono ?_); (case side1 => exact zC HR0_2 HB); (case side2 => exact HC0_2.out); rintro e w14 ⟨rfl, hb⟩; refine ⟨_, rfl, ?_⟩; have n0_ := zb BK178 hb; have n1_ := zb BK179 hb; have n2_ := Aside0.mk (below_step (zs2 HB GE178 GE179) hb); clear BK178 BK179 HB; revert n0_ n1_ n2_; intro BK178 BK179 HB; (try clear hb); (try clear hb2); (try clear hk); (try clear hi)))
   go_meet
   case rel => exact ⟨_, (true), zi, H', ⟨by first | omega | exact Nat.le_refl _⟩, ⟨zh BK178⟩, ⟨zh BK179⟩, ⟨zs2 HB GE178 GE179⟩⟩
  subst c7
  have H1 : ((spec_l21In.f a1 (-10000) 10000).bind fun t181 => (spec_FlyShift.j0 k a1 (!t181) a0_0 a0_1 l0_2 a0_3 a0_4)) = some (r1, r2, r3, r4, r5, r6) := by rw [if_pos rfl] at H; exact H
  clear H
  have H := H1
  clear H1
  replace H := Option.bind_eq_some_iff.mp H
  obtain ⟨t181, A80, H⟩ := H
  replace H : (spec_FlyShift.j0 k a1 (!t181) a0_0 a0_1 l0_2 a0_3 a0_4) = some (r1, r2, r3, r4, r5, r6) := H
  have A8 := Aside0.mk A80
  clear A80
  have H' := Aside0.mk H
  clear H
  have hnb9 := NB178_179.out
  have hnc9 := NB179_178.out
  obtain ⟨hcz10_0, hcz10_1, hcz10_2, hcz10_3, hcz10_4⟩ := zd5 BK178
  obtain ⟨hfz10_0, hfz10_1, hfz10_2, hfz10_3, hfz10_4⟩ := zn5 BK178
  go_wp2_with (first | ((with_reducible refine gate_callee (f := 32) rfl ?_); refine goesL_ (some 9) rfl rfl Try.func32 (by kernel_rfl) rfl #[.agg #[.int .i64 a0_0, .int .i64 a0_1, .slice A0_2 l0_2.length c0_2, .int .i64 a0_3, .int .i64 a0_4]] rfl zl ?_; (with_reducible refine (spec_FlyPathOk.calls k a0_0 a0_1 _ _ l0_2 a0_3 a0_4 true _ ?side1 ?side2 A6.out).mono ?_); (case side1 => exact zC HR0_2 HB); (case side2 => exact HC0_2.out); rintro e w11 ⟨rfl, hb⟩; refine ⟨_, rfl, ?_⟩; have n0_ := zb BK178 hb; have n1_ := zb BK179 hb; have n2_ := Aside0.mk (below_step (zs2 HB GE178 GE179) hb); clear BK178 BK179 HB; revert n0_ n1_ n2_; intro BK178 BK179 HB; (try clear hb); (try clear hb2); (try clear hk); (try clear hi)) | (go_at_call 70; (with_reducible refine (spec_l21In.calls a1 (-10000) 10000 t181 _ A8.out).mono ?_); rintro e w' ⟨rfl, ⟨nd, rfl⟩⟩))
  go_meet
  case rel => exact ⟨_, (!t181), zi, H', ⟨by first | omega | exact Nat.le_refl _⟩, ⟨zh BK178⟩, ⟨zh BK179⟩, ⟨zs2 HB GE178 GE179⟩⟩
 case rest =>
  clear HC3
  try clear c1
  try clear p2
  try clear c3
  try clear c7
  try clear c9
  try clear c12
  try clear hcz10_0
  try clear hcz10_1
  try clear hcz10_2
  try clear hcz10_3
  try clear hcz10_4
  try clear hcz13_0
  try clear hcz13_1
  try clear hcz13_2
  try clear hcz13_3
  try clear hcz13_4
  try clear hfz10_0
  try clear hfz10_1
  try clear hfz10_2
  try clear hfz10_3
  try clear hfz10_4
  try clear hfz13_0
  try clear hfz13_1
  try clear hfz13_2
  try clear hfz13_3
  try clear hfz13_4
  obtain ⟨kq, x15_2, rfl, HA, HJ2, BK178, BK179, HB⟩ := hcut
  cases kq with
  | zero => exact absurd HA.out (by simp [spec_FlyShift.j0])
  | succ kj2 =>
   have H := HA.out
   clear HA
   simp only [spec_FlyShift.j0] at H
   by_cases c15 : x15_2 = true
   ·subst c15
    have H1 : (some (0, 0, ([] : List (S88)), 0, 0, false)) = some (r1, r2, r3, r4, r5, r6) := by rw [if_pos rfl] at H; exact H
    clear H
    have H := H1
    clear H1
    simp only [Option.some.injEq, Prod.mk.injEq] at H
    obtain ⟨rfl, rfl, rfl, rfl, rfl, rfl⟩ := H
    have hnb16 := NB179_178.out
    have hnc16 := NB178_179.out
    obtain ⟨hcz17_0, hcz17_1, hcz17_2, hcz17_3, hcz17_4⟩ := zd5 BK179
    obtain ⟨hfz17_0, hfz17_1, hfz17_2, hfz17_3, hfz17_4⟩ := zn5 BK179
    go_wp2
    refine bodyPost_ret (results_ct rfl _ _ gb179 34 #[.int .i64 0, .int .i64 0, .slice none 0 0, .int .i64 0, .int .i64 0] (0, 0) _ rfl (by (with_reducible repeat (first | refine blk_drewN ?_ _ | refine blk_drew ?_ | refine blk_alloc ?_ _)); refine blk_put (cs := #[.int .i64 0, .int .i64 0, .slice none 0 0, .int .i64 0, .int .i64 0]) ?_ 4 _ rfl; (with_reducible repeat (first | refine blk_drewN ?_ _ | refine blk_drew ?_ | refine blk_alloc ?_ _)); refine blk_put (cs := #[.int .i64 0, .int .i64 0, .slice none 0 0, .int .i64 0, .int .i64 0]) ?_ 3 _ rfl; (with_reducible repeat (first | refine blk_drewN ?_ _ | refine blk_drew ?_ | refine blk_alloc ?_ _)); refine blk_put (cs := #[.int .i64 0, .int .i64 0, .slice none 0 0, .int .i64 0, .int .i64 0]) ?_ 2 _ rfl; (with_reducible repeat (first | refine blk_drewN ?_ _ | refine blk_drew ?_ | refine blk_alloc ?_ _)); refine blk_put (cs := #[.int .i64 0, .int .i64 0, .slice none 0 0, .int .i64 0, .int .i64 0]) ?_ 1 _ rfl; (with_reducible repeat (first | refine blk_drewN ?_ _ | refine blk_drew ?_ | refine blk_alloc ?_ _)); refine blk_put (cs := #[.int .i64 0, .int .i64 0, .slice none 0 0, .int .i64 0, .int .i64 0]) ?_ 0 _ rfl; (with_reducible repeat (first | refine blk_drewN ?_ _ | refine blk_drew ?_ | refine blk_alloc ?_ _)); exact BK179.out) Try.underlying34 rfl (by kernel_rfl)) rfl ?_
    exact ⟨_, ze, by first | exact Kd.R_nil _ _ _ _ _ | exact Kd.N_nil _ _ _ _ _ | exact Kd.V_nil _ _ _ _ _ | exact Kd.Q_nil _ _ _ _ _ | exact Kd.S_nil _ _ _ _ _, zs2 HB GE178 GE179⟩
   replace c15 := Bool.eq_false_iff.mpr c15
   subst c15
   have H1 : ((spec_l22Copy.f a0_0 a0_1 l0_2 a0_3 a0_4).bind fun bt182 => (spec_FlyShift.l0 kj2 a1 0 bt182.1 bt182.2.1 bt182.2.2.1 bt182.2.2.2.1 bt182.2.2.2.2)) = some (r1, r2, r3, r4, r5, r6) := by rw [if_neg (show ¬ (false = true) by decide)] at H; exact H
   clear H
   have H := H1
   clear H1
   replace H := Option.bind_eq_some_iff.mp H
   obtain ⟨⟨t182, t183, t184, t187, t188⟩, A180, H⟩ := H
   replace H : (spec_FlyShift.l0 kj2 a1 0 t182 t183 t184 t187 t188) = some (r1, r2, r3, r4, r5, r6) := H
   have A18 := Aside0.mk A180
   clear A180
   have H' := Aside0.mk H
   clear H
   have hnb19 := NB178_179.out
   have hnc19 := NB179_178.out
   obtain ⟨hcz20_0, hcz20_1, hcz20_2, hcz20_3, hcz20_4⟩ := zd5 BK178
   obtain ⟨hfz20_0, hfz20_1, hfz20_2, hfz20_3, hfz20_4⟩ := zn5 BK178
   go_wp2_with (first | ((with_reducible refine gate_callee (f := 83) rfl ?_); refine goesL_ (some 18) rfl rfl Try.func83 (by kernel_rfl) rfl #[.agg #[.int .i64 a0_0, .int .i64 a0_1, .slice A0_2 l0_2.length c0_2, .int .i64 a0_3, .int .i64 a0_4]] rfl zl ?_; (with_reducible refine (spec_l22Copy.calls a0_0 a0_1 _ _ l0_2 a0_3 a0_4 t182 t183 t184 t187 t188 _ ?side1 ?side2 A18.out).mono ?_); (case side1 => exact zC HR0_2 HB); (case side2 => exact HC0_2.out); rintro e w21 ⟨v185, rfl, ho0, hb⟩; refine ⟨_, rfl, ?_⟩; have n0_ := Aside0.mk (Kd.R_lower ho0 (below_size (zs2 HB GE178 GE179))); have n1_ := zb BK178 hb; have n2_ := zb BK179 hb; have n3_ := Aside0.mk (below_step (zs2 HB GE178 GE179) hb); clear BK178; clear BK179; clear HB; have HO186 := n0_; have BK178 := n1_; have BK179 := n2_; have HB := n3_; clear n0_ n1_ n2_ n3_; (try clear hb); (try clear hb2); (try clear hk); (try clear hi); (try clear ho0)) | ((with_reducible refine gate_dst (N := 6) rfl ?_); refine box_event (by rfl) (N := 6) (by rfl) (cs := #[.int .i64 0, .int .i64 0, .slice none 0 0, .int .i64 0, .int .i64 0]) (t := 34) zg ?_; intro gb189 hg w22 hbox hb; have n0_ := Aside0.mk (Kd.R_below (zr HO186) hb); have n1_ := zb BK178 hb; have n2_ := zb BK179 hb; have n3_ := Aside0.mk (below_step (zs2 HB GE178 GE179) hb); have n4_ := Aside0.mk (hbox); have n5_ := Aside0.mk ((by rw [hg]; exact (below_size (zs2 HB GE178 GE179)) : w.heap.size ≤ gb189)); have n6_ := Aside0.mk ((by rw [hg]; exact (below_size (zs2 HB GE178 GE179)) : w.heap.size ≤ gb189)); have n7_ := Aside0.mk ((by rw [hg]; exact Nat.ne_of_lt (blk_lt (g := gb178) (o := .cells #[.int .i64 a0_0, .int .i64 a0_1, .slice A0_2 l0_2.length c0_2, .int .i64 a0_3, .int .i64 a0_4] 34 (0, 0)) (zh BK178)) : gb178 ≠ gb189)); have n8_ := Aside0.mk ((by rw [hg]; exact Nat.ne_of_gt (blk_lt (g := gb178) (o := .cells #[.int .i64 a0_0, .int .i64 a0_1, .slice A0_2 l0_2.length c0_2, .int .i64 a0_3, .int .i64 a0_4] 34 (0, 0)) (zh BK178)) : gb189 ≠ gb178)); have n9_ := Aside0.mk ((by rw [hg]; exact Nat.ne_of_lt (blk_lt (g := gb179) (o := .cells #[.int .i64 0, .int .i64 0, .slice none 0 0, .int .i64 0, .int .i64 0] 34 (0, 0)) (zh BK179)) : gb179 ≠ gb189)); have n10_ := Aside0.mk ((by rw [hg]; exact Nat.ne_of_gt (blk_lt (g := gb179) (o := .cells #[.int .i64 0, .int .i64 0, .slice none 0 0, .int .i64 0, .int .i64 0] 34 (0, 0)) (zh BK179)) : gb189 ≠ gb179)); clear HO186; clear BK178; clear BK179; clear HB; have HO186 := n0_; have BK178 := n1_; have BK179 := n2_; have HB := n3_; have BK189 := n4_; have GW189 := n5_; have GE189 := n6_; have NB178_189 := n7_; have NB189_178 := n8_; have NB179_189 := n9_; have NB189_179 := n10_; clear n0_ n1_ n2_ n3_ n4_ n5_ n6_ n7_ n8_ n9_ n10_; clear hb hbox hg; have hnb23 := NB189_178.out; have hnc23 := NB178_189.out; have hnb24 := NB189_179.out; have hnc24 := NB179_189.out; obtain ⟨hcz25_0, hcz25_1, hcz25_2, hcz25_3, hcz25_4⟩ := zd5 BK189; obtain ⟨hfz25_0, hfz25_1, hfz25_2, hfz25_3, hfz25_4⟩ := zn5 BK189; obtain ⟨Ao26, co26, eo26⟩ := Kd.R_slice HO186.out; subst eo26))
   go_loopg [7] kj2 (fun kq v7 w' => ∃ (x7_2 : Int) (x190002_2 : List (S88)) (u190002 : Value), v7 = .int .i64 x7_2 ∧ Aside0 (spec_FlyShift.l0 kq a1 x7_2 t182 t183 x190002_2 t187 t188 = some (r1, r2, r3, r4, r5, r6)) ∧ Aside0 (kq ≤ kj2) ∧ Aside0 (Kd.R k88 88 w' w.heap.size (fun _ => True) u190002 x190002_2) ∧ Aside0 (w'.heap[gb178]? = some (.cells #[.int .i64 a0_0, .int .i64 a0_1, (.slice A0_2 l0_2.length c0_2), .int .i64 a0_3, .int .i64 a0_4] 34 (0, 0))) ∧ Aside0 (w'.heap[gb179]? = some (.cells #[.int .i64 0, .int .i64 0, (.slice none 0 0), .int .i64 0, .int .i64 0] 34 (0, 0))) ∧ Aside0 (w'.heap[gb189]? = some (.cells #[.int .i64 t182, .int .i64 t183, u190002, .int .i64 t187, .int .i64 t188] 34 (0, 0))) ∧ Aside0 (Below w.heap.size w w'))
   case atStart => exact ⟨(0), (t184), (.slice Ao26 t184.length co26), zi, H', ⟨Nat.le_refl _⟩, ⟨by (with_reducible repeat (first | apply Kd.R_alloc | apply Kd.R_drewN | apply Kd.R_drew)); exact Kd.R_mono (Kd.R_far (p := ⟨gb189, 4, none⟩) (Kd.R_far (p := ⟨gb189, 3, none⟩) (Kd.R_far (p := ⟨gb189, 2, none⟩) (Kd.R_far (p := ⟨gb189, 1, none⟩) (Kd.R_far (p := ⟨gb189, 0, none⟩) (Kd.R_types HO186.out BK189.out (by decide)) (fun _ hk => hk.2) (.int .i64 t182)) (fun _ hk => hk.2) (.int .i64 t183)) (fun _ hk => hk.2) (.slice Ao26 t184.length co26)) (fun _ hk => hk.2) (.int .i64 t187)) (fun _ hk => hk.2) (.int .i64 t188)) (fun _ hk => trivial)⟩, ⟨by (with_reducible repeat (first | refine blk_drewN ?_ _ | refine blk_drew ?_ | refine blk_alloc ?_ _)); refine blk_far ?_ NB178_189.out _; (with_reducible repeat (first | refine blk_drewN ?_ _ | refine blk_drew ?_ | refine blk_alloc ?_ _)); refine blk_far ?_ NB178_189.out _; (with_reducible repeat (first | refine blk_drewN ?_ _ | refine blk_drew ?_ | refine blk_alloc ?_ _)); refine blk_far ?_ NB178_189.out _; (with_reducible repeat (first | refine blk_drewN ?_ _ | refine blk_drew ?_ | refine blk_alloc ?_ _)); refine blk_far ?_ NB178_189.out _; (with_reducible repeat (first | refine blk_drewN ?_ _ | refine blk_drew ?_ | refine blk_alloc ?_ _)); refine blk_far ?_ NB178_189.out _; (with_reducible repeat (first | refine blk_drewN ?_ _ | refine blk_drew ?_ | refine blk_alloc ?_ _)); exact BK178.out⟩, ⟨by (with_reducible repeat (first | refine blk_drewN ?_ _ | refine blk_drew ?_ | refine blk_alloc ?_ _)); refine blk_far ?_ NB179_189.out _; (with_reducible repeat (first | refine blk_drewN ?_ _ | refine blk_drew ?_ | refine blk_alloc ?_ _)); refine blk_far ?_ NB179_189.out _; (with_reducible repeat (first | refine blk_drewN ?_ _ | refine blk_drew ?_ | refine blk_alloc ?_ _)); refine blk_far ?_ NB179_189.out _; (with_reducible repeat (first | refine blk_drewN ?_ _ | refine blk_drew ?_ | refine blk_alloc ?_ _)); refine blk_far ?_ NB179_189.out _; (with_reducible repeat (first | refine blk_drewN ?_ _ | refine blk_drew ?_ | refine blk_alloc ?_ _)); refine blk_far ?_ NB179_189.out _; (with_reducible repeat (first | refine blk_drewN ?_ _ | refine blk_drew ?_ | refine blk_alloc ?_ _)); exact BK179.out⟩, ⟨by (with_reducible repeat (first | refine blk_drewN ?_ _ | refine blk_drew ?_ | refine blk_alloc ?_ _)); refine blk_put (cs := #[.int .i64 t182, .int .i64 t183, .slice Ao26 t184.length co26, .int .i64 t187, .int .i64 0]) ?_ 4 _ rfl; (with_reducible repeat (first | refine blk_drewN ?_ _ | refine blk_drew ?_ | refine blk_alloc ?_ _)); refine blk_put (cs := #[.int .i64 t182, .int .i64 t183, .slice Ao26 t184.length co26, .int .i64 0, .int .i64 0]) ?_ 3 _ rfl; (with_reducible repeat (first | refine blk_drewN ?_ _ | refine blk_drew ?_ | refine blk_alloc ?_ _)); refine blk_put (cs := #[.int .i64 t182, .int .i64 t183, .slice none 0 0, .int .i64 0, .int .i64 0]) ?_ 2 _ rfl; (with_reducible repeat (first | refine blk_drewN ?_ _ | refine blk_drew ?_ | refine blk_alloc ?_ _)); refine blk_put (cs := #[.int .i64 t182, .int .i64 0, .slice none 0 0, .int .i64 0, .int .i64 0]) ?_ 1 _ rfl; (with_reducible repeat (first | refine blk_drewN ?_ _ | refine blk_drew ?_ | refine blk_alloc ?_ _)); refine blk_put (cs := #[.int .i64 0, .int .i64 0, .slice none 0 0, .int .i64 0, .int .i64 0]) ?_ 0 _ rfl; (with_reducible repeat (first | refine blk_drewN ?_ _ | refine blk_drew ?_ | refine blk_alloc ?_ _)); exact BK189.out⟩, ⟨zs3 HB GE178 GE179 GE189⟩⟩
   case round =>
    clear H'
    try clear c1
    try clear c2
    try clear p2
    try clear c3
    try clear c7
    try clear c8
    try clear c9
    try clear c12
    try clear c15
    try clear c16
    try clear c19
    try clear c23
    try clear c24
    try clear hcz10_0
    try clear hcz10_1
    try clear hcz10_2
    try clear hcz10_3
    try clear hcz10_4
    try clear hcz13_0
    try clear hcz13_1
    try clear hcz13_2
    try clear hcz13_3
    try clear hcz13_4
    try clear hcz17_0
    try clear hcz17_1
    try clear hcz17_2
    try clear hcz17_3
    try clear hcz17_4
    try clear hcz20_0
    try clear hcz20_1
    try clear hcz20_2
    try clear hcz20_3
    try clear hcz20_4
    try clear hcz25_0
    try clear hcz25_1
    try clear hcz25_2
    try clear hcz25_3
    try clear hcz25_4
    try clear hfz10_0
    try clear hfz10_1
    try clear hfz10_2
    try clear hfz10_3
    try clear hfz10_4
    try clear hfz13_0
    try clear hfz13_1
    try clear hfz13_2
    try clear hfz13_3
    try clear hfz13_4
    try clear hfz17_0
    try clear hfz17_1
    try clear hfz17_2
    try clear hfz17_3
    try clear hfz17_4
    try clear hfz20_0
    try clear hfz20_1
    try clear hfz20_2
    try clear hfz20_3
    try clear hfz20_4
    try clear hfz25_0
    try clear hfz25_1
    try clear hfz25_2
    try clear hfz25_3
    try clear hfz25_4
    try clear p2
    obtain ⟨x7_2, x190002_2, u190002, rfl, HA, HK2, HO_190002, BK178, BK179, BK189, HB⟩ := hrel
    cases gk with
    | zero => exact absurd HA.out (by simp [spec_FlyShift.l0])
    | succ k2 =>
     have H := HA.out
     clear HA
     simp only [spec_FlyShift.l0] at H
     by_cases c27 : x7_2 < (x190002_2.length : Int)
     rotate_left
     ·rw [if_neg c27] at H
      have c27b0 : decide (x7_2 < (x190002_2.length : Int)) = false := decide_eq_false c27
      clear c27
      replace H := Option.bind_eq_some_iff.mp H
      obtain ⟨t194, A400, H⟩ := H
      replace H : (if t194 = true then (some (t182, t183, x190002_2, wrap64 (t187 + a1), wrap64 (t188 + a1), true)) else (some (0, 0, ([] : List (S88)), 0, 0, false))) = some (r1, r2, r3, r4, r5, r6) := H
      have A40 := Aside0.mk A400
      clear A400
      by_cases c41 : t194 = true
      rotate_left
      ·replace c41 := Bool.eq_false_iff.mpr c41
       subst c41
       have H1 : (some (0, 0, ([] : List (S88)), 0, 0, false)) = some (r1, r2, r3, r4, r5, r6) := by rw [if_neg (show ¬ (false = true) by decide)] at H; exact H
       clear H
       have H := H1
       clear H1
       simp only [Option.some.injEq, Prod.mk.injEq] at H
       obtain ⟨rfl, rfl, rfl, rfl, rfl, rfl⟩ := H
       have hnb50 := NB189_178.out
       have hnc50 := NB178_189.out
       have hnb51 := NB189_179.out
       have hnc51 := NB179_189.out
       obtain ⟨hcz52_0, hcz52_1, hcz52_2, hcz52_3, hcz52_4⟩ := zd5 BK189
       obtain ⟨hfz52_0, hfz52_1, hfz52_2, hfz52_3, hfz52_4⟩ := zn5 BK189
       obtain ⟨Ao53, co53, eo53⟩ := Kd.R_slice HO_190002.out
       subst eo53
       go_wp2_with (first | ((with_reducible refine gate_callee (f := 32) rfl ?_); refine goesL_ (some 63) rfl rfl Try.func32 (by kernel_rfl) rfl #[.agg #[.int .i64 t182, .int .i64 t183, .slice Ao53 x190002_2.length co53, .int .i64 (wrap64 (t187 + a1)), .int .i64 (wrap64 (t188 + a1))]] rfl zl ?_; (with_reducible refine (spec_FlyPathOk.calls k2 t182 t183 _ _ x190002_2 (wrap64 (t187 + a1)) (wrap64 (t188 + a1)) false _ ?side1 ?side2 A40.out).mono ?_); (case side1 => refine (Kd.R_reads' (e := 88) (base := w.heap.size) (ok := fun k_ => True) (n := x190002_2.length) (c := co53) ?_).2.2; exact (by (with_reducible repeat (first | apply Kd.R_alloc | apply Kd.R_drewN | apply Kd.R_drew)); exact (Kd.R_mono (Kd.R_far (p := ⟨gb189, 4, none⟩) (Kd.R_far (p := ⟨gb189, 3, none⟩) (Kd.R_types HO_190002.out BK189.out (by decide)) (fun _ hk => hk.2) (.int .i64 (wrap64 (t187 + a1)))) (fun _ hk => hk.2) (.int .i64 (wrap64 (t188 + a1)))) (fun _ h_ => h_.1)))); (case side2 => exact (Kd.R_reads' HO_190002.out).2.1); rintro e w54 ⟨rfl, hb⟩; refine ⟨_, rfl, ?_⟩; have n0_ := Aside0.mk (Kd.R_below (by (with_reducible repeat (first | apply Kd.R_alloc | apply Kd.R_drewN | apply Kd.R_drew)); exact (Kd.R_mono (Kd.R_far (p := ⟨gb189, 4, none⟩) (Kd.R_far (p := ⟨gb189, 3, none⟩) (Kd.R_types HO_190002.out BK189.out (by decide)) (fun _ hk => hk.2) (.int .i64 (wrap64 (t187 + a1)))) (fun _ hk => hk.2) (.int .i64 (wrap64 (t188 + a1)))) (fun _ h_ => h_.1))) hb); have n1_ := Aside0.mk (blk_below (g := gb178) (o := .cells #[.int .i64 a0_0, .int .i64 a0_1, .slice A0_2 l0_2.length c0_2, .int .i64 a0_3, .int .i64 a0_4] 34 (0, 0)) (by (with_reducible repeat (first | refine blk_drewN ?_ _ | refine blk_drew ?_ | refine blk_alloc ?_ _)); refine blk_far ?_ NB178_189.out _; (with_reducible repeat (first | refine blk_drewN ?_ _ | refine blk_drew ?_ | refine blk_alloc ?_ _)); refine blk_far ?_ NB178_189.out _; (with_reducible repeat (first | refine blk_drewN ?_ _ | refine blk_drew ?_ | refine blk_alloc ?_ _)); exact BK178.out) hb); have n2_ := Aside0.mk (blk_below (g := gb179) (o := .cells #[.int .i64 0, .int .i64 0, .slice none 0 0, .int .i64 0, .int .i64 0] 34 (0, 0)) (by (with_reducible repeat (first | refine blk_drewN ?_ _ | refine blk_drew ?_ | refine blk_alloc ?_ _)); refine blk_far ?_ NB179_189.out _; (with_reducible repeat (first | refine blk_drewN ?_ _ | refine blk_drew ?_ | refine blk_alloc ?_ _)); refine blk_far ?_ NB179_189.out _; (with_reducible repeat (first | refine blk_drewN ?_ _ | refine blk_drew ?_ | refine blk_alloc ?_ _)); exact BK179.out) hb); have n3_ := Aside0.mk (blk_below (g := gb189) (o := .cells #[.int .i64 t182, .int .i64 t183, .slice Ao53 x190002_2.length co53, .int .i64 (wrap64 (t187 + a1)), .int .i64 (wrap64 (t188 + a1))] 34 (0, 0)) (by (with_reducible repeat (first | refine blk_drewN ?_ _ | refine blk_drew ?_ | refine blk_alloc ?_ _)); refine blk_put (cs := #[.int .i64 t182, .int .i64 t183, .slice Ao53 x190002_2.length co53, .int .i64 (wrap64 (t187 + a1)), .int .i64 t188]) ?_ 4 _ rfl; (with_reducible repeat (first | refine blk_drewN ?_ _ | refine blk_drew ?_ | refine blk_alloc ?_ _)); refine blk_put (cs := #[.int .i64 t182, .int .i64 t183, .slice Ao53 x190002_2.length co53, .int .i64 t187, .int .i64 t188]) ?_ 3 _ rfl; (with_reducible repeat (first | refine blk_drewN ?_ _ | refine blk_drew ?_ | refine blk_alloc ?_ _)); exact BK189.out) hb); have n4_ := Aside0.mk (below_step (zs3 HB GE178 GE179 GE189) hb); clear HO_190002 BK178 BK179 BK189 HB; revert n0_ n1_ n2_ n3_ n4_; intro HO_190002 BK178 BK179 BK189 HB; (try clear hb); (try clear hb2); (try clear hk); (try clear hi); have hnb55 := NB179_178.out; have hnc55 := NB178_179.out; obtain ⟨hcz56_0, hcz56_1, hcz56_2, hcz56_3, hcz56_4⟩ := zd5 BK179; obtain ⟨hfz56_0, hfz56_1, hfz56_2, hfz56_3, hfz56_4⟩ := zn5 BK179))
       refine bodyPost_ret (results_ct rfl _ _ gb179 34 #[.int .i64 0, .int .i64 0, .slice none 0 0, .int .i64 0, .int .i64 0] (0, 0) _ rfl (by (with_reducible repeat (first | refine blk_drewN ?_ _ | refine blk_drew ?_ | refine blk_alloc ?_ _)); refine blk_put (cs := #[.int .i64 0, .int .i64 0, .slice none 0 0, .int .i64 0, .int .i64 0]) ?_ 4 _ rfl; (with_reducible repeat (first | refine blk_drewN ?_ _ | refine blk_drew ?_ | refine blk_alloc ?_ _)); refine blk_put (cs := #[.int .i64 0, .int .i64 0, .slice none 0 0, .int .i64 0, .int .i64 0]) ?_ 3 _ rfl; (with_reducible repeat (first | refine blk_drewN ?_ _ | refine blk_drew ?_ | refine blk_alloc ?_ _)); refine blk_put (cs := #[.int .i64 0, .int .i64 0, .slice none 0 0, .int .i64 0, .int .i64 0]) ?_ 2 _ rfl; (with_reducible repeat (first | refine blk_drewN ?_ _ | refine blk_drew ?_ | refine blk_alloc ?_ _)); refine blk_put (cs := #[.int .i64 0, .int .i64 0, .slice none 0 0, .int .i64 0, .int .i64 0]) ?_ 1 _ rfl; (with_reducible repeat (first | refine blk_drewN ?_ _ | refine blk_drew ?_ | refine blk_alloc ?_ _)); refine blk_put (cs := #[.int .i64 0, .int .i64 0, .slice none 0 0, .int .i64 0, .int .i64 0]) ?_ 0 _ rfl; (with_reducible repeat (first | refine blk_drewN ?_ _ | refine blk_drew ?_ | refine blk_alloc ?_ _)); exact BK179.out) Try.underlying34 rfl (by kernel_rfl)) rfl ?_
       exact ⟨_, ze, by first | exact Kd.R_nil _ _ _ _ _ | exact Kd.N_nil _ _ _ _ _ | exact Kd.V_nil _ _ _ _ _ | exact Kd.Q_nil _ _ _ _ _ | exact Kd.S_nil _ _ _ _ _, zs3 HB GE178 GE179 GE189⟩
      subst c41
      have H1 : (some (t182, t183, x190002_2, wrap64 (t187 + a1), wrap64 (t188 + a1), true)) = some (r1, r2, r3, r4, r5, r6) := by rw [if_pos rfl] at H; exact H
      clear H
      have H := H1
      clear H1
      simp only [Option.some.injEq, Prod.mk.injEq] at H
      obtain ⟨rfl, rfl, rfl, rfl, rfl, rfl⟩ := H
      have hnb42 := NB189_178.out
      have hnc42 := NB178_189.out
      have hnb43 := NB189_179.out
      have hnc43 := NB179_189.out
      obtain ⟨hcz44_0, hcz44_1, hcz44_2, hcz44_3, hcz44_4⟩ := zd5 BK189
      obtain ⟨hfz44_0, hfz44_1, hfz44_2, hfz44_3, hfz44_4⟩ := zn5 BK189
      obtain ⟨Ao45, co45, eo45⟩ := Kd.R_slice HO_190002.out
      subst eo45
      go_wp2_with (first | ((with_reducible refine gate_callee (f := 32) rfl ?_); refine goesL_ (some 63) rfl rfl Try.func32 (by kernel_rfl) rfl #[.agg #[.int .i64 t182, .int .i64 t183, .slice Ao45 x190002_2.length co45, .int .i64 (wrap64 (t187 + a1)), .int .i64 (wrap64 (t188 + a1))]] rfl zl ?_; (with_reducible refine (spec_FlyPathOk.calls k2 t182 t183 _ _ x190002_2 (wrap64 (t187 + a1)) (wrap64 (t188 + a1)) true _ ?side1 ?side2 A40.out).mono ?_); (case side1 => refine (Kd.R_reads' (e := 88) (base := w.heap.size) (ok := fun k_ => True) (n := x190002_2.length) (c := co45) ?_).2.2; exact (by (with_reducible repeat (first | apply Kd.R_alloc | apply Kd.R_drewN | apply Kd.R_drew)); exact (Kd.R_mono (Kd.R_far (p := ⟨gb189, 4, none⟩) (Kd.R_far (p := ⟨gb189, 3, none⟩) (Kd.R_types HO_190002.out BK189.out (by decide)) (fun _ hk => hk.2) (.int .i64 (wrap64 (t187 + a1)))) (fun _ hk => hk.2) (.int .i64 (wrap64 (t188 + a1)))) (fun _ h_ => h_.1)))); (case side2 => exact (Kd.R_reads' HO_190002.out).2.1); rintro e w46 ⟨rfl, hb⟩; refine ⟨_, rfl, ?_⟩; have n0_ := Aside0.mk (Kd.R_below (by (with_reducible repeat (first | apply Kd.R_alloc | apply Kd.R_drewN | apply Kd.R_drew)); exact (Kd.R_mono (Kd.R_far (p := ⟨gb189, 4, none⟩) (Kd.R_far (p := ⟨gb189, 3, none⟩) (Kd.R_types HO_190002.out BK189.out (by decide)) (fun _ hk => hk.2) (.int .i64 (wrap64 (t187 + a1)))) (fun _ hk => hk.2) (.int .i64 (wrap64 (t188 + a1)))) (fun _ h_ => h_.1))) hb); have n1_ := Aside0.mk (blk_below (g := gb178) (o := .cells #[.int .i64 a0_0, .int .i64 a0_1, .slice A0_2 l0_2.length c0_2, .int .i64 a0_3, .int .i64 a0_4] 34 (0, 0)) (by (with_reducible repeat (first | refine blk_drewN ?_ _ | refine blk_drew ?_ | refine blk_alloc ?_ _)); refine blk_far ?_ NB178_189.out _; (with_reducible repeat (first | refine blk_drewN ?_ _ | refine blk_drew ?_ | refine blk_alloc ?_ _)); refine blk_far ?_ NB178_189.out _; (with_reducible repeat (first | refine blk_drewN ?_ _ | refine blk_drew ?_ | refine blk_alloc ?_ _)); exact BK178.out) hb); have n2_ := Aside0.mk (blk_below (g := gb179) (o := .cells #[.int .i64 0, .int .i64 0, .slice none 0 0, .int .i64 0, .int .i64 0] 34 (0, 0)) (by (with_reducible repeat (first | refine blk_drewN ?_ _ | refine blk_drew ?_ | refine blk_alloc ?_ _)); refine blk_far ?_ NB179_189.out _; (with_reducible repeat (first | refine blk_drewN ?_ _ | refine blk_drew ?_ | refine blk_alloc ?_ _)); refine blk_far ?_ NB179_189.out _; (with_reducible repeat (first | refine blk_drewN ?_ _ | refine blk_drew ?_ | refine blk_alloc ?_ _)); exact BK179.out) hb); have n3_ := Aside0.mk (blk_below (g := gb189) (o := .cells #[.int .i64 t182, .int .i64 t183, .slice Ao45 x190002_2.length co45, .int .i64 (wrap64 (t187 + a1)), .int .i64 (wrap64 (t188 + a1))] 34 (0, 0)) (by (with_reducible repeat (first | refine blk_drewN ?_ _ | refine blk_drew ?_ | refine blk_alloc ?_ _)); refine blk_put (cs := #[.int .i64 t182, .int .i64 t183, .slice Ao45 x190002_2.length co45, .int .i64 (wrap64 (t187 + a1)), .int .i64 t188]) ?_ 4 _ rfl; (with_reducible repeat (first | refine blk_drewN ?_ _ | refine blk_drew ?_ | refine blk_alloc ?_ _)); refine blk_put (cs := #[.int .i64 t182, .int .i64 t183, .slice Ao45 x190002_2.length co45, .int .i64 t187, .int .i64 t188]) ?_ 3 _ rfl; (with_reducible repeat (first | refine blk_drewN ?_ _ | refine blk_drew ?_ | refine blk_alloc ?_ _)); exact BK189.out) hb); have n4_ := Aside0.mk (below_step (zs3 HB GE178 GE179 GE189) hb); clear HO_190002 BK178 BK179 BK189 HB; revert n0_ n1_ n2_ n3_ n4_; intro HO_190002 BK178 BK179 BK189 HB; (try clear hb); (try clear hb2); (try clear hk); (try clear hi); obtain ⟨hcz47_0, hcz47_1, hcz47_2, hcz47_3, hcz47_4⟩ := zd5 BK189; obtain ⟨hfz47_0, hfz47_1, hfz47_2, hfz47_3, hfz47_4⟩ := zn5 BK189; have hnb48 := NB179_178.out; have hnc48 := NB178_179.out; obtain ⟨hcz49_0, hcz49_1, hcz49_2, hcz49_3, hcz49_4⟩ := zd5 BK179; obtain ⟨hfz49_0, hfz49_1, hfz49_2, hfz49_3, hfz49_4⟩ := zn5 BK179))
      refine bodyPost_ret (results_ct rfl _ _ gb179 34 #[.int .i64 t182, .int .i64 t183, .slice Ao45 x190002_2.length co45, .int .i64 (wrap64 (t187 + a1)), .int .i64 (wrap64 (t188 + a1))] (0, 0) _ rfl (by (with_reducible repeat (first | refine blk_drewN ?_ _ | refine blk_drew ?_ | refine blk_alloc ?_ _)); refine blk_put (cs := #[.int .i64 t182, .int .i64 t183, .slice Ao45 x190002_2.length co45, .int .i64 (wrap64 (t187 + a1)), .int .i64 0]) ?_ 4 _ rfl; (with_reducible repeat (first | refine blk_drewN ?_ _ | refine blk_drew ?_ | refine blk_alloc ?_ _)); refine blk_put (cs := #[.int .i64 t182, .int .i64 t183, .slice Ao45 x190002_2.length co45, .int .i64 0, .int .i64 0]) ?_ 3 _ rfl; (with_reducible repeat (first | refine blk_drewN ?_ _ | refine blk_drew ?_ | refine blk_alloc ?_ _)); refine blk_put (cs := #[.int .i64 t182, .int .i64 t183, .slice none 0 0, .int .i64 0, .int .i64 0]) ?_ 2 _ rfl; (with_reducible repeat (first | refine blk_drewN ?_ _ | refine blk_drew ?_ | refine blk_alloc ?_ _)); refine blk_put (cs := #[.int .i64 t182, .int .i64 0, .slice none 0 0, .int .i64 0, .int .i64 0]) ?_ 1 _ rfl; (with_reducible repeat (first | refine blk_drewN ?_ _ | refine blk_drew ?_ | refine blk_alloc ?_ _)); refine blk_put (cs := #[.int .i64 0, .int .i64 0, .slice none 0 0, .int .i64 0, .int .i64 0]) ?_ 0 _ rfl; (with_reducible repeat (first | refine blk_drewN ?_ _ | refine blk_drew ?_ | refine blk_alloc ?_ _)); exact BK179.out) Try.underlying34 rfl (by kernel_rfl)) rfl ?_
      exact ⟨_, ze, by (with_reducible repeat (first | apply Kd.R_alloc | apply Kd.R_drewN | apply Kd.R_drew)); exact Kd.R_mono (Kd.R_far (p := ⟨gb179, 4, none⟩) (Kd.R_far (p := ⟨gb179, 3, none⟩) (Kd.R_far (p := ⟨gb179, 2, none⟩) (Kd.R_far (p := ⟨gb179, 1, none⟩) (Kd.R_far (p := ⟨gb179, 0, none⟩) (Kd.R_types HO_190002.out BK179.out (by decide)) (fun _ hk => hk.2) (.int .i64 t182)) (fun _ hk => hk.2) (.int .i64 t183)) (fun _ hk => hk.2) (.slice Ao45 x190002_2.length co45)) (fun _ hk => hk.2) (.int .i64 (wrap64 (t187 + a1)))) (fun _ hk => hk.2) (.int .i64 (wrap64 (t188 + a1)))) (fun _ hk => trivial), zs3 HB GE178 GE179 GE189⟩
     rw [if_pos c27] at H
     have c27b0 : decide (x7_2 < (x190002_2.length : Int)) = true := decide_eq_true c27
     clear c27
     by_cases c28 : 0 ≤ x7_2
     rotate_left
     ·rw [if_neg c28] at H
      exact absurd H (by simp)
     rw [if_pos c28] at H
     have c28b0 : decide (0 ≤ x7_2) = true := decide_eq_true c28
     clear c28
     obtain ⟨y191, hy191⟩ : ∃ y_ : List (S88), y_ = (x190002_2.set (x7_2 : Int).toNat (⟨(rd_T88 x190002_2 x7_2).f0, (rd_T88 x190002_2 x7_2).f1, (rd_T88 x190002_2 x7_2).f2, (rd_T88 x190002_2 x7_2).f3, wrap64 (((rd_T88 x190002_2 x7_2).f4) + a1), (rd_T88 x190002_2 x7_2).f5, (rd_T88 x190002_2 x7_2).f6⟩ : S88)) := ⟨_, rfl⟩
     replace H : (spec_FlyShift.l0 k2 a1 (wrap64 (x7_2 + 1)) t182 t183 (y191.set (x7_2 : Int).toNat (⟨(rd_T88 y191 x7_2).f0, (rd_T88 y191 x7_2).f1, (rd_T88 y191 x7_2).f2, (rd_T88 y191 x7_2).f3, (rd_T88 y191 x7_2).f4, wrap64 (((rd_T88 y191 x7_2).f5) + a1), (rd_T88 y191 x7_2).f6⟩ : S88)) t187 t188) = some (r1, r2, r3, r4, r5, r6) := by first | (rw [hy191]; with_reducible exact H) | (have H2_ := (Option.bind_some _ _).symm.trans H; rw [hy191]; with_reducible exact H2_) | (have H2_ := (Option.bind_some _ _).symm.trans H; with_reducible exact H2_) | with_reducible exact H | (rw [hy191]; exact H) | exact H
     have Ny191 := Aside0.mk hy191
     clear hy191
     obtain ⟨y193, hy193⟩ : ∃ y_ : List (S88), y_ = (y191.set (x7_2 : Int).toNat (⟨(rd_T88 y191 x7_2).f0, (rd_T88 y191 x7_2).f1, (rd_T88 y191 x7_2).f2, (rd_T88 y191 x7_2).f3, (rd_T88 y191 x7_2).f4, wrap64 (((rd_T88 y191 x7_2).f5) + a1), (rd_T88 y191 x7_2).f6⟩ : S88)) := ⟨_, rfl⟩
     replace H : (spec_FlyShift.l0 k2 a1 (wrap64 (x7_2 + 1)) t182 t183 y193 t187 t188) = some (r1, r2, r3, r4, r5, r6) := by first | (rw [hy193]; with_reducible exact H) | (have H2_ := (Option.bind_some _ _).symm.trans H; rw [hy193]; with_reducible exact H2_) | (have H2_ := (Option.bind_some _ _).symm.trans H; with_reducible exact H2_) | with_reducible exact H | (rw [hy193]; exact H) | exact H
     have Ny193 := Aside0.mk hy193
     clear hy193
     have H' := Aside0.mk H
     clear H
     have hnb31 := NB189_178.out
     have hnc31 := NB178_189.out
     have hnb32 := NB189_179.out
     have hnc32 := NB179_189.out
     obtain ⟨hcz33_0, hcz33_1, hcz33_2, hcz33_3, hcz33_4⟩ := zd5 BK189
     obtain ⟨hfz33_0, hfz33_1, hfz33_2, hfz33_3, hfz33_4⟩ := zn5 BK189
     obtain ⟨Ao34, co34, eo34⟩ := Kd.R_slice HO_190002.out
     subst eo34
     try go_wp2
     have n0_ := Aside0.mk (Kd.R_drew HO_190002.out)
     have n1_ := Aside0.mk (blk_drew BK178.out)
     have n2_ := Aside0.mk (blk_drew BK179.out)
     have n3_ := Aside0.mk (blk_drew BK189.out)
     have n4_ := Aside0.mk (below_drew1 HB.out)
     clear HO_190002 BK178 BK179 BK189 HB
     revert n0_ n1_ n2_ n3_ n4_
     intro HO_190002 BK178 BK179 BK189 HB
     have p190 : 0 ≤ (x7_2 : Int) := za
     have q190 : x7_2 < (x190002_2.length : Int) := za
     obtain ⟨ad190, e190, hx190_0, hx190_1, hx190_2, hx190_3, hx190_4, hx190_5, hx190_6⟩ := at_T88 (Kd.R_reads' HO_190002.out).2.2 x7_2 p190 q190
     cases e190
     replace p190 := eq_true p190
     replace q190 := eq_true q190
     have p29 : 0 ≤ (x7_2 : Int) := za
     have q29 : (x7_2 : Int) < ((x190002_2.length : Int) : Int) := za
     obtain ⟨go29, co29, eo29, gb29, gl29, cl29, HG29⟩ := Kd.R_form HO_190002.out (by omega)
     (first | cases eo29 | (injection eo29 with ea_ en_ ec_; (first | subst ea_ | (injection ea_ with ea_; subst ea_)); subst ec_; clear en_))
     have GB29 := Aside0.mk gb29
     have GG29 := Aside0.mk HG29
     clear gb29 gl29 HG29
     (first | simp only [add_plain] at hx190_0 | skip)
     (first | simp only [add_plain] at hx190_1 | skip)
     (first | simp only [add_plain] at hx190_2 | skip)
     (first | simp only [add_plain] at hx190_3 | skip)
     (first | simp only [add_plain] at hx190_4 | skip)
     (first | simp only [add_plain] at hx190_5 | skip)
     (first | simp only [add_plain] at hx190_6 | skip)
     obtain ⟨ce29, hcl29, hM29, hcc29, hfr29⟩ := Kd.R_elem HO_190002.out z88 (x7_2 : Int) p29 q29
     obtain rfl := k88_openM hM29
     have hx29_0 : World.cell? _ ⟨go29, (x7_2 : Int).toNat * 7, none⟩ = some (.int .i64 ((rd_T88 x190002_2 x7_2).f0)) := hcc29 0 _ rfl
     have hx29_1 : World.cell? _ ⟨go29, (x7_2 : Int).toNat * 7 + 1, none⟩ = some (.int .i64 ((rd_T88 x190002_2 x7_2).f1)) := hcc29 1 _ rfl
     have hx29_2 : World.cell? _ ⟨go29, (x7_2 : Int).toNat * 7 + 2, none⟩ = some (.int .i64 ((rd_T88 x190002_2 x7_2).f2)) := hcc29 2 _ rfl
     have hx29_3 : World.cell? _ ⟨go29, (x7_2 : Int).toNat * 7 + 3, none⟩ = some (.int .i64 ((rd_T88 x190002_2 x7_2).f3)) := hcc29 3 _ rfl
     have hx29_4 : World.cell? _ ⟨go29, (x7_2 : Int).toNat * 7 + 4, none⟩ = some (.int .i64 ((rd_T88 x190002_2 x7_2).f4)) := hcc29 4 _ rfl
     have hx29_5 : World.cell? _ ⟨go29, (x7_2 : Int).toNat * 7 + 5, none⟩ = some (.int .i64 ((rd_T88 x190002_2 x7_2).f5)) := hcc29 5 _ rfl
     have hx29_6 : World.cell? _ ⟨go29, (x7_2 : Int).toNat * 7 + 6, none⟩ = some (.bool ((rd_T88 x190002_2 x7_2).f6)) := hcc29 6 _ rfl
     have hf29_0 : World.frozen? _ ⟨go29, (x7_2 : Int).toNat * 7, none⟩ = false := hfr29 0
     have hf29_1 : World.frozen? _ ⟨go29, (x7_2 : Int).toNat * 7 + 1, none⟩ = false := hfr29 1
     have hf29_2 : World.frozen? _ ⟨go29, (x7_2 : Int).toNat * 7 + 2, none⟩ = false := hfr29 2
     have hf29_3 : World.frozen? _ ⟨go29, (x7_2 : Int).toNat * 7 + 3, none⟩ = false := hfr29 3
     have hf29_4 : World.frozen? _ ⟨go29, (x7_2 : Int).toNat * 7 + 4, none⟩ = false := hfr29 4
     have hf29_5 : World.frozen? _ ⟨go29, (x7_2 : Int).toNat * 7 + 5, none⟩ = false := hfr29 5
     have hf29_6 : World.frozen? _ ⟨go29, (x7_2 : Int).toNat * 7 + 6, none⟩ = false := hfr29 6
     clear hcl29 hcc29 hfr29 hM29
     replace p29 := eq_true p29
     replace q29 := eq_true q29
     obtain ⟨ce36, hcl36, hM36, hcc36, hfr36⟩ := Kd.R_elem HO_190002.out z88 (x7_2 : Int) (za) (by have h_ : (x7_2 : Int) < ((x190002_2.length : Int) : Int) := za; first | exact h_ | (have e_ := (Kd.R_reads' HO_190002.out).1; omega) | simpa using h_)
     obtain rfl := k88_openM hM36
     have HP36 := (Kd.R_seg HO_190002.out (x7_2 : Int) (za) (by have h_ : (x7_2 : Int) < ((x190002_2.length : Int) : Int) := za; first | exact h_ | (have e_ := (Kd.R_reads' HO_190002.out).1; omega) | simpa using h_) (seg := [.int .i64 (wrap64 (((rd_T88 x190002_2 x7_2).f4) + a1))]) (j := 4) hcl36 hcc36 (show 5 ≤ 7 from by decide) (x' := (⟨(rd_T88 x190002_2 x7_2).f0, (rd_T88 x190002_2 x7_2).f1, (rd_T88 x190002_2 x7_2).f2, (rd_T88 x190002_2 x7_2).f3, wrap64 (((rd_T88 x190002_2 x7_2).f4) + a1), (rd_T88 x190002_2 x7_2).f5, (rd_T88 x190002_2 x7_2).f6⟩ : S88)) (k88_mkM _ _ _ (⟨(rd_T88 x190002_2 x7_2).f0, (rd_T88 x190002_2 x7_2).f1, (rd_T88 x190002_2 x7_2).f2, (rd_T88 x190002_2 x7_2).f3, wrap64 (((rd_T88 x190002_2 x7_2).f4) + a1), (rd_T88 x190002_2 x7_2).f5, (rd_T88 x190002_2 x7_2).f6⟩ : S88) ) (fun _ hk => hk)).1
     rw [← Ny191.out] at HP36
     have HQ36 := Aside0.mk HP36
     clear hcl36 hcc36 hfr36 hM36 HP36
     refine start_ (n := 14) (S := fun w' => w'.cell? ⟨gb189, 0, none⟩ = some (.int .i64 t182) ∧ w'.cell? ⟨gb189, 1, none⟩ = some (.int .i64 t183) ∧ w'.cell? ⟨gb189, 2, none⟩ = some (.slice (some ⟨go29, 0, none⟩) x190002_2.length co34) ∧ w'.cell? ⟨gb189, 3, none⟩ = some (.int .i64 t187) ∧ w'.cell? ⟨gb189, 4, none⟩ = some (.int .i64 t188) ∧ w'.cell? ⟨go29, ((x7_2).toNat * 7), none⟩ = some (.int .i64 ((rd_T88 x190002_2 x7_2).f0)) ∧ w'.cell? ⟨go29, ((x7_2).toNat * 7) + 1, none⟩ = some (.int .i64 ((rd_T88 x190002_2 x7_2).f1)) ∧ w'.cell? ⟨go29, ((x7_2).toNat * 7) + 2, none⟩ = some (.int .i64 ((rd_T88 x190002_2 x7_2).f2)) ∧ w'.cell? ⟨go29, ((x7_2).toNat * 7) + 3, none⟩ = some (.int .i64 ((rd_T88 x190002_2 x7_2).f3)) ∧ w'.cell? ⟨go29, ((x7_2).toNat * 7) + 4, none⟩ = some (.int .i64 ((rd_T88 x190002_2 x7_2).f4)) ∧ w'.cell? ⟨go29, ((x7_2).toNat * 7) + 5, none⟩ = some (.int .i64 ((rd_T88 x190002_2 x7_2).f5)) ∧ w'.cell? ⟨go29, ((x7_2).toNat * 7) + 6, none⟩ = some (.bool ((rd_T88 x190002_2 x7_2).f6))) (ds := [13]) #[false, false, false, false, false, false, false, false, false, false, false, false, false, false] (by kernel_rfl) rfl rfl ⟨(blk_cell BK189.out 0).trans rfl, (blk_cell BK189.out 1).trans rfl, (blk_cell BK189.out 2).trans rfl, (blk_cell BK189.out 3).trans rfl, (blk_cell BK189.out 4).trans rfl, hx190_0, hx190_1, hx190_2, hx190_3, hx190_4, hx190_5, hx190_6⟩ (fun hHeld => ?_); refine with_tabW spec_FlyShift.tab7 spec_FlyShift.bits7 (fun HT_ HW_ => ?_)
     generalize wr.drew = w35 at HO_190002 BK178 BK179 BK189 HB GG29 HQ36 hf29_0 hf29_1 hf29_2 hf29_3 hf29_4 hf29_5 hf29_6 hx190_0 hx190_1 hx190_2 hx190_3 hx190_4 hx190_5 hx190_6 hx29_0 hx29_1 hx29_2 hx29_3 hx29_4 hx29_5 hx29_6 hHeld ⊢
     refine pure_ (i := 0) (N := some 26) (v := ?_) (a' := ?_) #[true, false, false, false, false, false, false, false, false, false, false, false, false, false] rfl rfl (any_of HT_.out (by kernel_rfl)) (fun _ _ _ h => h) (Or.inl ⟨by rfl, ?_⟩) ?_ ?_; rotate_left; exact zy; rotate_left; exact zput
     refine pure_ (i := 2) (N := some 28) (v := ?_) (a' := ?_) #[true, false, true, false, false, false, false, false, false, false, false, false, false, false] rfl rfl (any_of HT_.out (by kernel_rfl)) (fun _ _ _ h => h) (Or.inl ⟨by rfl, ?_⟩) ?_ ?_; rotate_left; exact zy; rotate_left; exact zput
     refine pure_ (i := 3) (N := some 29) (v := ?_) (a' := ?_) #[true, false, true, true, false, false, false, false, false, false, false, false, false, false] rfl rfl (any_of HT_.out (by kernel_rfl)) (fun _ _ _ h => h) (Or.inl ⟨by rfl, ?_⟩) ?_ ?_; rotate_left; exact zy; rotate_left; exact zput
     refine pure_ (i := 5) (N := some 31) (v := ?_) (a' := ?_) #[true, false, true, true, false, true, false, false, false, false, false, false, false, false] rfl rfl (any_of HT_.out (by kernel_rfl)) (fun _ _ _ h => h) (Or.inl ⟨by rfl, ?_⟩) ?_ ?_; rotate_left; exact zy; rotate_left; exact zput
     refine pure_ (i := 9) (N := some 35) (v := ?_) (a' := ?_) #[true, false, true, true, false, true, false, false, false, true, false, false, false, false] rfl rfl (any_of HT_.out (by kernel_rfl)) (fun _ _ _ h => h) (Or.inl ⟨by rfl, ?_⟩) ?_ ?_; rotate_left; exact zy; rotate_left; exact zput
     refine take_ (i := 1) (N := some 27) (v := ?_) (a' := ?_) #[true, true, true, true, false, true, false, false, false, true, false, false, false, false] rfl rfl (take_ofW HT_.out HW_.out (by kernel_rfl)) (fun _ _ _ h => h) (Or.inl ⟨by rfl, ?_⟩) hHeld ?_ ?_; rotate_left; exact zt12; rotate_left; exact zput
     refine take_ (i := 4) (N := some 30) (v := ?_) (a' := ?_) #[true, true, true, true, true, true, false, false, false, true, false, false, false, false] rfl rfl (take_ofW HT_.out HW_.out (by kernel_rfl)) (fun _ _ _ h => h) (Or.inl ⟨by rfl, ?_⟩) hHeld ?_ ?_; rotate_left; exact zt12; rotate_left; exact zput
     refine pure_ (i := 6) (N := some 32) (v := ?_) (a' := ?_) #[true, true, true, true, true, true, true, false, false, true, false, false, false, false] rfl rfl (any_of HT_.out (by kernel_rfl)) (fun _ _ _ h => h) (Or.inl ⟨by rfl, ?_⟩) ?_ ?_; rotate_left; exact zy; rotate_left; exact zput
     refine pure_ (i := 7) (N := some 33) (v := ?_) (a' := ?_) #[true, true, true, true, true, true, true, true, false, true, false, false, false, false] rfl rfl (any_of HT_.out (by kernel_rfl)) (fun _ _ _ h => h) (Or.inl ⟨by rfl, ?_⟩) ?_ ?_; rotate_left; exact zy; rotate_left; exact zput
     refine take_ (i := 8) (N := some 34) (v := ?_) (a' := ?_) #[true, true, true, true, true, true, true, true, true, true, false, false, false, false] rfl rfl (take_ofW HT_.out HW_.out (by kernel_rfl)) (fun _ _ _ h => h) (Or.inl ⟨by rfl, ?_⟩) hHeld ?_ ?_; rotate_left; exact zt12; rotate_left; exact zput
     refine pure_ (i := 10) (N := some 36) (v := ?_) (a' := ?_) #[true, true, true, true, true, true, true, true, true, true, true, false, false, false] rfl rfl (any_of HT_.out (by kernel_rfl)) (fun _ _ _ h => h) (Or.inl ⟨by rfl, ?_⟩) ?_ ?_; rotate_left; exact zy; rotate_left; exact zput
     refine pure_ (i := 11) (N := some 37) (v := ?_) (a' := ?_) #[true, true, true, true, true, true, true, true, true, true, true, true, false, false] rfl rfl (any_of HT_.out (by kernel_rfl)) (fun _ _ _ h => h) (Or.inl ⟨by rfl, ?_⟩) ?_ ?_; rotate_left; exact zy; rotate_left; exact zput
     refine pure_ (i := 12) (N := some 38) (v := ?_) (a' := ?_) #[true, true, true, true, true, true, true, true, true, true, true, true, true, false] rfl rfl (any_of HT_.out (by kernel_rfl)) (fun _ _ _ h => h) (Or.inl ⟨by rfl, ?_⟩) ?_ ?_; rotate_left; exact zy; rotate_left; exact zput
     refine last_ (i := 13) (N := none) #[true, true, true, true, true, true, true, true, true, true, true, true, true, true] rfl rfl (one_of HT_.out (by kernel_rfl)) (by decide) (fun K hK => ?_)
     refine skip_ (w1 := ?_) (by rfl) rfl ?_ ?_
     rotate_left
     ·go_simp
      rfl
     refine hK.out _ _ ?_
     clear hK K
     refine done_ (done_of HT_.out (by kernel_rfl)) ?_
     try go_wp2
     have n0_ : Aside0 (Kd.R k88 88 (w35.setCell ⟨go29, (x7_2 : Int).toNat * 7 + 4, none⟩ (.int .i64 (wrap64 (((rd_T88 x190002_2 x7_2).f4) + a1)))) w.heap.size (fun _ => True) (.slice (some ⟨go29, 0, none⟩) x190002_2.length co34) y191) := ⟨zr HQ36⟩
     have n1_ : Aside0 ((w35.setCell ⟨go29, (x7_2 : Int).toNat * 7 + 4, none⟩ (.int .i64 (wrap64 (((rd_T88 x190002_2 x7_2).f4) + a1)))).heap[gb178]? = some (.cells #[.int .i64 a0_0, .int .i64 a0_1, .slice A0_2 l0_2.length c0_2, .int .i64 a0_3, .int .i64 a0_4] 34 (0, 0))) := ⟨by (with_reducible repeat (first | refine blk_drewN ?_ _ | refine blk_drew ?_ | refine blk_alloc ?_ _)); refine blk_far ?_ (by have h_ := Kd.R_ne HO_190002.out BK178.out (by decide); intro e_; exact h_ (by rw [e_]; rfl)) _; (with_reducible repeat (first | refine blk_drewN ?_ _ | refine blk_drew ?_ | refine blk_alloc ?_ _)); exact BK178.out⟩
     have n2_ : Aside0 ((w35.setCell ⟨go29, (x7_2 : Int).toNat * 7 + 4, none⟩ (.int .i64 (wrap64 (((rd_T88 x190002_2 x7_2).f4) + a1)))).heap[gb179]? = some (.cells #[.int .i64 0, .int .i64 0, .slice none 0 0, .int .i64 0, .int .i64 0] 34 (0, 0))) := ⟨by (with_reducible repeat (first | refine blk_drewN ?_ _ | refine blk_drew ?_ | refine blk_alloc ?_ _)); refine blk_far ?_ (by have h_ := Kd.R_ne HO_190002.out BK179.out (by decide); intro e_; exact h_ (by rw [e_]; rfl)) _; (with_reducible repeat (first | refine blk_drewN ?_ _ | refine blk_drew ?_ | refine blk_alloc ?_ _)); exact BK179.out⟩
     have n3_ : Aside0 ((w35.setCell ⟨go29, (x7_2 : Int).toNat * 7 + 4, none⟩ (.int .i64 (wrap64 (((rd_T88 x190002_2 x7_2).f4) + a1)))).heap[gb189]? = some (.cells #[.int .i64 t182, .int .i64 t183, .slice (some ⟨go29, 0, none⟩) x190002_2.length co34, .int .i64 t187, .int .i64 t188] 34 (0, 0))) := ⟨by (with_reducible repeat (first | refine blk_drewN ?_ _ | refine blk_drew ?_ | refine blk_alloc ?_ _)); refine blk_far ?_ (by have h_ := Kd.R_ne HO_190002.out BK189.out (by decide); intro e_; exact h_ (by rw [e_]; rfl)) _; (with_reducible repeat (first | refine blk_drewN ?_ _ | refine blk_drew ?_ | refine blk_alloc ?_ _)); exact BK189.out⟩
     have n4_ : Aside0 (Below w.heap.size w (w35.setCell ⟨go29, (x7_2 : Int).toNat * 7 + 4, none⟩ (.int .i64 (wrap64 (((rd_T88 x190002_2 x7_2).f4) + a1))))) := ⟨by repeat (first | (with_reducible first | exact HB.out | apply below_alloc | apply pw_below_drewN | apply below_drew1 | refine below_set ?_ GB29.out | refine below_set ?_ GE178.out | refine below_set ?_ GE179.out | refine below_set ?_ GE189.out) | exact HB.out)⟩
     (try clear HO_190002)
     (try clear BK178)
     (try clear BK179)
     (try clear BK189)
     (try clear HB)
     generalize (w35.setCell ⟨go29, (x7_2 : Int).toNat * 7 + 4, none⟩ (.int .i64 (wrap64 (((rd_T88 x190002_2 x7_2).f4) + a1)))) = w37 at n0_ n1_ n2_ n3_ n4_ ⊢
     have HO_190002 := n0_
     have BK178 := n1_
     have BK179 := n2_
     have BK189 := n3_
     have HB := n4_
     clear n0_ n1_ n2_ n3_ n4_
     have n0_ := Aside0.mk (Kd.R_drew HO_190002.out)
     have n1_ := Aside0.mk (blk_drew BK178.out)
     have n2_ := Aside0.mk (blk_drew BK179.out)
     have n3_ := Aside0.mk (blk_drew BK189.out)
     have n4_ := Aside0.mk (below_drew1 HB.out)
     clear HO_190002 BK178 BK179 BK189 HB
     revert n0_ n1_ n2_ n3_ n4_
     intro HO_190002 BK178 BK179 BK189 HB
     have p192 : 0 ≤ (x7_2 : Int) := za
     have q192 : x7_2 < (y191.length : Int) := (by have h_ : (x7_2 : Int) < ((x190002_2.length : Int) : Int) := za; first | (have e_ := (Kd.R_reads' HO_190002.out).1; omega) | simpa only [Ny191.out, List.length_set] using h_)
     have ql192 : ((x7_2 : Int) < ((x190002_2.length : Int) : Int)) = True := eq_true (za)
     obtain ⟨ad192, e192, hx192_0, hx192_1, hx192_2, hx192_3, hx192_4, hx192_5, hx192_6⟩ := at_T88 (Kd.R_reads' HO_190002.out).2.2 x7_2 p192 q192
     obtain rfl : (⟨go29, 0, none⟩ : Addr) = ad192 := (by injection e192)
     (first | simp only [add_plain] at hx192_0 | simp only [add_at] at hx192_0 | simp only [Addr.add, Nat.zero_add] at hx192_0 | skip)
     (first | simp only [add_plain] at hx192_1 | simp only [add_at] at hx192_1 | simp only [Addr.add, Nat.zero_add] at hx192_1 | skip)
     (first | simp only [add_plain] at hx192_2 | simp only [add_at] at hx192_2 | simp only [Addr.add, Nat.zero_add] at hx192_2 | skip)
     (first | simp only [add_plain] at hx192_3 | simp only [add_at] at hx192_3 | simp only [Addr.add, Nat.zero_add] at hx192_3 | skip)
     (first | simp only [add_plain] at hx192_4 | simp only [add_at] at hx192_4 | simp only [Addr.add, Nat.zero_add] at hx192_4 | skip)
     (first | simp only [add_plain] at hx192_5 | simp only [add_at] at hx192_5 | simp only [Addr.add, Nat.zero_add] at hx192_5 | skip)
     (first | simp only [add_plain] at hx192_6 | simp only [add_at] at hx192_6 | simp only [Addr.add, Nat.zero_add] at hx192_6 | skip)
     replace p192 := eq_true p192
     replace q192 := eq_true q192
     have p30 : 0 ≤ (x7_2 : Int) := za
     have q30 : (x7_2 : Int) < ((x190002_2.length : Int) : Int) := za
     obtain ⟨ce30, hcl30, hM30, hcc30, hfr30⟩ := Kd.R_elem HO_190002.out z88 (x7_2 : Int) p30 q30
     obtain rfl := k88_openM hM30
     have hx30_0 : World.cell? _ ⟨go29, (x7_2 : Int).toNat * 7, none⟩ = some (.int .i64 ((rd_T88 y191 x7_2).f0)) := hcc30 0 _ rfl
     have hx30_1 : World.cell? _ ⟨go29, (x7_2 : Int).toNat * 7 + 1, none⟩ = some (.int .i64 ((rd_T88 y191 x7_2).f1)) := hcc30 1 _ rfl
     have hx30_2 : World.cell? _ ⟨go29, (x7_2 : Int).toNat * 7 + 2, none⟩ = some (.int .i64 ((rd_T88 y191 x7_2).f2)) := hcc30 2 _ rfl
     have hx30_3 : World.cell? _ ⟨go29, (x7_2 : Int).toNat * 7 + 3, none⟩ = some (.int .i64 ((rd_T88 y191 x7_2).f3)) := hcc30 3 _ rfl
     have hx30_4 : World.cell? _ ⟨go29, (x7_2 : Int).toNat * 7 + 4, none⟩ = some (.int .i64 ((rd_T88 y191 x7_2).f4)) := hcc30 4 _ rfl
     have hx30_5 : World.cell? _ ⟨go29, (x7_2 : Int).toNat * 7 + 5, none⟩ = some (.int .i64 ((rd_T88 y191 x7_2).f5)) := hcc30 5 _ rfl
     have hx30_6 : World.cell? _ ⟨go29, (x7_2 : Int).toNat * 7 + 6, none⟩ = some (.bool ((rd_T88 y191 x7_2).f6)) := hcc30 6 _ rfl
     have hf30_0 : World.frozen? _ ⟨go29, (x7_2 : Int).toNat * 7, none⟩ = false := hfr30 0
     have hf30_1 : World.frozen? _ ⟨go29, (x7_2 : Int).toNat * 7 + 1, none⟩ = false := hfr30 1
     have hf30_2 : World.frozen? _ ⟨go29, (x7_2 : Int).toNat * 7 + 2, none⟩ = false := hfr30 2
     have hf30_3 : World.frozen? _ ⟨go29, (x7_2 : Int).toNat * 7 + 3, none⟩ = false := hfr30 3
     have hf30_4 : World.frozen? _ ⟨go29, (x7_2 : Int).toNat * 7 + 4, none⟩ = false := hfr30 4
     have hf30_5 : World.frozen? _ ⟨go29, (x7_2 : Int).toNat * 7 + 5, none⟩ = false := hfr30 5
     have hf30_6 : World.frozen? _ ⟨go29, (x7_2 : Int).toNat * 7 + 6, none⟩ = false := hfr30 6
     clear hcl30 hcc30 hfr30 hM30
     replace p30 := eq_true p30
     replace q30 := eq_true q30
     obtain ⟨ce39, hcl39, hM39, hcc39, hfr39⟩ := Kd.R_elem HO_190002.out z88 (x7_2 : Int) (za) (by have h_ : (x7_2 : Int) < ((x190002_2.length : Int) : Int) := za; first | exact h_ | (have e_ := (Kd.R_reads' HO_190002.out).1; omega) | simpa using h_)
     obtain rfl := k88_openM hM39
     have HP39 := (Kd.R_seg HO_190002.out (x7_2 : Int) (za) (by have h_ : (x7_2 : Int) < ((x190002_2.length : Int) : Int) := za; first | exact h_ | (have e_ := (Kd.R_reads' HO_190002.out).1; omega) | simpa using h_) (seg := [.int .i64 (wrap64 (((rd_T88 y191 x7_2).f5) + a1))]) (j := 5) hcl39 hcc39 (show 6 ≤ 7 from by decide) (x' := (⟨(rd_T88 y191 x7_2).f0, (rd_T88 y191 x7_2).f1, (rd_T88 y191 x7_2).f2, (rd_T88 y191 x7_2).f3, (rd_T88 y191 x7_2).f4, wrap64 (((rd_T88 y191 x7_2).f5) + a1), (rd_T88 y191 x7_2).f6⟩ : S88)) (k88_mkM _ _ _ (⟨(rd_T88 y191 x7_2).f0, (rd_T88 y191 x7_2).f1, (rd_T88 y191 x7_2).f2, (rd_T88 y191 x7_2).f3, (rd_T88 y191 x7_2).f4, wrap64 (((rd_T88 y191 x7_2).f5) + a1), (rd_T88 y191 x7_2).f6⟩ : S88) ) (fun _ hk => hk)).1
     rw [← Ny193.out] at HP39
     have HQ39 := Aside0.mk HP39
     clear hcl39 hcc39 hfr39 hM39 HP39
     refine start_ (n := 14) (S := fun w' => w'.cell? ⟨gb189, 0, none⟩ = some (.int .i64 t182) ∧ w'.cell? ⟨gb189, 1, none⟩ = some (.int .i64 t183) ∧ w'.cell? ⟨gb189, 2, none⟩ = some (.slice (some ⟨go29, 0, none⟩) x190002_2.length co34) ∧ w'.cell? ⟨gb189, 3, none⟩ = some (.int .i64 t187) ∧ w'.cell? ⟨gb189, 4, none⟩ = some (.int .i64 t188) ∧ w'.cell? ⟨go29, (x7_2).toNat * 7, none⟩ = some (.int .i64 ((rd_T88 y191 x7_2).f0)) ∧ w'.cell? ⟨go29, (x7_2).toNat * 7 + 1, none⟩ = some (.int .i64 ((rd_T88 y191 x7_2).f1)) ∧ w'.cell? ⟨go29, (x7_2).toNat * 7 + 2, none⟩ = some (.int .i64 ((rd_T88 y191 x7_2).f2)) ∧ w'.cell? ⟨go29, (x7_2).toNat * 7 + 3, none⟩ = some (.int .i64 ((rd_T88 y191 x7_2).f3)) ∧ w'.cell? ⟨go29, (x7_2).toNat * 7 + 4, none⟩ = some (.int .i64 ((rd_T88 y191 x7_2).f4)) ∧ w'.cell? ⟨go29, (x7_2).toNat * 7 + 5, none⟩ = some (.int .i64 ((rd_T88 y191 x7_2).f5)) ∧ w'.cell? ⟨go29, (x7_2).toNat * 7 + 6, none⟩ = some (.bool ((rd_T88 y191 x7_2).f6))) (ds := [13]) #[false, false, false, false, false, false, false, false, false, false, false, false, false, false] (by kernel_rfl) rfl rfl ⟨(blk_cell BK189.out 0).trans rfl, (blk_cell BK189.out 1).trans rfl, (blk_cell BK189.out 2).trans rfl, (blk_cell BK189.out 3).trans rfl, (blk_cell BK189.out 4).trans rfl, hx192_0, hx192_1, hx192_2, hx192_3, hx192_4, hx192_5, hx192_6⟩ (fun hHeld => ?_); refine with_tabW spec_FlyShift.tab8 spec_FlyShift.bits8 (fun HT_ HW_ => ?_)
     generalize w37.drew = w38 at HO_190002 BK178 BK179 BK189 HB HQ36 HQ39 hf30_0 hf30_1 hf30_2 hf30_3 hf30_4 hf30_5 hf30_6 hx192_0 hx192_1 hx192_2 hx192_3 hx192_4 hx192_5 hx192_6 hx30_0 hx30_1 hx30_2 hx30_3 hx30_4 hx30_5 hx30_6 hHeld ⊢
     refine pure_ (i := 0) (N := some 39) (v := ?_) (a' := ?_) #[true, false, false, false, false, false, false, false, false, false, false, false, false, false] rfl rfl (any_of HT_.out (by kernel_rfl)) (fun _ _ _ h => h) (Or.inl ⟨by rfl, ?_⟩) ?_ ?_; rotate_left; exact zy; rotate_left; exact zput
     refine pure_ (i := 2) (N := some 41) (v := ?_) (a' := ?_) #[true, false, true, false, false, false, false, false, false, false, false, false, false, false] rfl rfl (any_of HT_.out (by kernel_rfl)) (fun _ _ _ h => h) (Or.inl ⟨by rfl, ?_⟩) ?_ ?_; rotate_left; exact zy; rotate_left; exact zput
     refine pure_ (i := 3) (N := some 42) (v := ?_) (a' := ?_) #[true, false, true, true, false, false, false, false, false, false, false, false, false, false] rfl rfl (any_of HT_.out (by kernel_rfl)) (fun _ _ _ h => h) (Or.inl ⟨by rfl, ?_⟩) ?_ ?_; rotate_left; exact zy; rotate_left; exact zput
     refine pure_ (i := 5) (N := some 44) (v := ?_) (a' := ?_) #[true, false, true, true, false, true, false, false, false, false, false, false, false, false] rfl rfl (any_of HT_.out (by kernel_rfl)) (fun _ _ _ h => h) (Or.inl ⟨by rfl, ?_⟩) ?_ ?_; rotate_left; exact zy; rotate_left; exact zput
     refine pure_ (i := 9) (N := some 48) (v := ?_) (a' := ?_) #[true, false, true, true, false, true, false, false, false, true, false, false, false, false] rfl rfl (any_of HT_.out (by kernel_rfl)) (fun _ _ _ h => h) (Or.inl ⟨by rfl, ?_⟩) ?_ ?_; rotate_left; exact zy; rotate_left; exact zput
     refine take_ (i := 1) (N := some 40) (v := ?_) (a' := ?_) #[true, true, true, true, false, true, false, false, false, true, false, false, false, false] rfl rfl (take_ofW HT_.out HW_.out (by kernel_rfl)) (fun _ _ _ h => h) (Or.inl ⟨by rfl, ?_⟩) hHeld ?_ ?_; rotate_left; exact zt12; rotate_left; exact zput
     refine take_ (i := 4) (N := some 43) (v := ?_) (a' := ?_) #[true, true, true, true, true, true, false, false, false, true, false, false, false, false] rfl rfl (take_ofW HT_.out HW_.out (by kernel_rfl)) (fun _ _ _ h => h) (Or.inl ⟨by rfl, ?_⟩) hHeld ?_ ?_; rotate_left; exact zt12; rotate_left; exact zput
     refine pure_ (i := 6) (N := some 45) (v := ?_) (a' := ?_) #[true, true, true, true, true, true, true, false, false, true, false, false, false, false] rfl rfl (any_of HT_.out (by kernel_rfl)) (fun _ _ _ h => h) (Or.inl ⟨by rfl, ?_⟩) ?_ ?_; rotate_left; exact zy; rotate_left; exact zput
     refine pure_ (i := 7) (N := some 46) (v := ?_) (a' := ?_) #[true, true, true, true, true, true, true, true, false, true, false, false, false, false] rfl rfl (any_of HT_.out (by kernel_rfl)) (fun _ _ _ h => h) (Or.inl ⟨by rfl, ?_⟩) ?_ ?_; rotate_left; exact zy; rotate_left; exact zput
     refine take_ (i := 8) (N := some 47) (v := ?_) (a' := ?_) #[true, true, true, true, true, true, true, true, true, true, false, false, false, false] rfl rfl (take_ofW HT_.out HW_.out (by kernel_rfl)) (fun _ _ _ h => h) (Or.inl ⟨by rfl, ?_⟩) hHeld ?_ ?_; rotate_left; exact zt12; rotate_left; exact zput
     refine pure_ (i := 10) (N := some 49) (v := ?_) (a' := ?_) #[true, true, true, true, true, true, true, true, true, true, true, false, false, false] rfl rfl (any_of HT_.out (by kernel_rfl)) (fun _ _ _ h => h) (Or.inl ⟨by rfl, ?_⟩) ?_ ?_; rotate_left; exact zy; rotate_left; exact zput
     refine pure_ (i := 11) (N := some 50) (v := ?_) (a' := ?_) #[true, true, true, true, true, true, true, true, true, true, true, true, false, false] rfl rfl (any_of HT_.out (by kernel_rfl)) (fun _ _ _ h => h) (Or.inl ⟨by rfl, ?_⟩) ?_ ?_; rotate_left; exact zy; rotate_left; exact zput
     refine pure_ (i := 12) (N := some 51) (v := ?_) (a' := ?_) #[true, true, true, true, true, true, true, true, true, true, true, true, true, false] rfl rfl (any_of HT_.out (by kernel_rfl)) (fun _ _ _ h => h) (Or.inl ⟨by rfl, ?_⟩) ?_ ?_; rotate_left; exact zy; rotate_left; exact zput
     refine last_ (i := 13) (N := none) #[true, true, true, true, true, true, true, true, true, true, true, true, true, true] rfl rfl (one_of HT_.out (by kernel_rfl)) (by decide) (fun K hK => ?_)
     refine skip_ (w1 := ?_) (by rfl) rfl ?_ ?_
     rotate_left
     ·go_simp
      rfl
     refine hK.out _ _ ?_
     clear hK K
     refine done_ (done_of HT_.out (by kernel_rfl)) ?_
     try go_wp2
     go_roundg k2
     case measure => have := HJ2.out; have := HK2.out; omega
     case rel => exact ⟨(wrap64 (x7_2 + 1)), (y193), (.slice (some ⟨go29, 0, none⟩) x190002_2.length co34), zi, H', ⟨by have := HJ2.out; have := HK2.out; omega⟩, ⟨zr HQ39⟩, ⟨by (with_reducible repeat (first | refine blk_drewN ?_ _ | refine blk_drew ?_ | refine blk_alloc ?_ _)); refine blk_far ?_ (by have h_ := Kd.R_ne HO_190002.out BK178.out (by decide); intro e_; exact h_ (by rw [e_]; rfl)) _; (with_reducible repeat (first | refine blk_drewN ?_ _ | refine blk_drew ?_ | refine blk_alloc ?_ _)); exact BK178.out⟩, ⟨by (with_reducible repeat (first | refine blk_drewN ?_ _ | refine blk_drew ?_ | refine blk_alloc ?_ _)); refine blk_far ?_ (by have h_ := Kd.R_ne HO_190002.out BK179.out (by decide); intro e_; exact h_ (by rw [e_]; rfl)) _; (with_reducible repeat (first | refine blk_drewN ?_ _ | refine blk_drew ?_ | refine blk_alloc ?_ _)); exact BK179.out⟩, ⟨by (with_reducible repeat (first | refine blk_drewN ?_ _ | refine blk_drew ?_ | refine blk_alloc ?_ _)); refine blk_far ?_ (by have h_ := Kd.R_ne HO_190002.out BK189.out (by decide); intro e_; exact h_ (by rw [e_]; rfl)) _; (with_reducible repeat (first | refine blk_drewN ?_ _ | refine blk_drew ?_ | refine blk_alloc ?_ _)); exact BK189.out⟩, ⟨by repeat (first | (with_reducible first | exact HB.out | apply below_alloc | apply pw_below_drewN | apply below_drew1 | refine below_set ?_ GB29.out | refine below_set ?_ GE178.out | refine below_set ?_ GE179.out | refine below_set ?_ GE189.out) | exact HB.out)⟩⟩
end Go.Proofs.Ytidenmcoilmbcaa.QFnExactFlyShift
