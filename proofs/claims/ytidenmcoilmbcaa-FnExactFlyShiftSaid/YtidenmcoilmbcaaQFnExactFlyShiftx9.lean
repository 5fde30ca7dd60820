/- The walk of what the law FnExactFlyShift reaches: laid by a program of this session (ownprint.py). -/
import Derived.Test.YtidenmcoilmbcaaQFnExactFlyShiftx0
import Derived.Test.YtidenmcoilmbcaaQFnExactFlyShiftx7
import Derived.Test.YtidenmcoilmbcaaQFnExactFlyShiftx8
namespace Go.Proofs.Ytidenmcoilmbcaa.QFnExactFlyShift
open Go.RowKit Go.Proofs.YtidenmcoilmbcaaW.PrintWords Go.Proofs.YtidenmcoilmbcaaW.PrintLast Go.Proofs.YtidenmcoilmbcaaW.PrintMore Go.Proofs.Ytidenmcoilmbcaa.Z
attribute [local go_sem] max2_int min2_int max_two min_two max_three min_three max_four min_four zdn   -- for this text's walks alone
set_option linter.unusedVariables false
set_option linter.unusedSimpArgs false
mutual
def impl_FlyShift.j0 : Nat → Int → Bool → Int → Int → List (S88) → Int → Int → Option (Int × Int × (List (S88)) × Int × Int × Bool)
 | 0, _, _, _, _, _, _, _ => none
 | k + 1, x1, x15, x212000, x212001, x212002, x212003, x212004 => if x15 = true then (some (0, 0, ([] : List (S88)), 0, 0, false)) else (if ([] : List (S88)).length + x212002.length < 2513169434916 then ((some (([] : List (S88)) ++ x212002 : List (S88))).bind fun y215 => (impl_FlyShift.l0 k x1 (y215.length : Int) 0 x212000 x212001 y215 (wrap64 (x212003 + x1)) (wrap64 (x212004 + x1)))) else (none))
def impl_FlyShift.l0 : Nat → Int → Int → Int → Int → Int → List (S88) → Int → Int → Option (Int × Int × (List (S88)) × Int × Int × Bool)
 | 0, _, _, _, _, _, _, _, _ => none
 | k + 1, x1, x33, x34, x219000, x219001, x219002, x219003, x219004 => if x34 < x33 then (if 0 ≤ x34 then (if x34 < (x219002.length : Int) then ((some (x219002.set (x34 : Int).toNat (⟨(rd_T88 x219002 x34).f0, (rd_T88 x219002 x34).f1, (rd_T88 x219002 x34).f2, (rd_T88 x219002 x34).f3, wrap64 (((rd_T88 x219002 x34).f4) + x1), (rd_T88 x219002 x34).f5, (rd_T88 x219002 x34).f6⟩ : S88) : List (S88))).bind fun y220 => (impl_FlyShift.l0 k x1 x33 (wrap64 (x34 + 1)) x219000 x219001 (y220.set (x34 : Int).toNat (⟨(rd_T88 y220 x34).f0, (rd_T88 y220 x34).f1, (rd_T88 y220 x34).f2, (rd_T88 y220 x34).f3, (rd_T88 y220 x34).f4, wrap64 (((rd_T88 y220 x34).f5) + x1), (rd_T88 y220 x34).f6⟩ : S88)) x219003 x219004)) else (none)) else (none)) else ((impl_FlyPathOk.f k x219000 x219001 x219002 x219003 x219004).bind fun t223 => (if t223 = true then (some (x219000, x219001, x219002, x219003, x219004, true)) else (some (0, 0, ([] : List (S88)), 0, 0, false))))
end
def impl_FlyShift.f (k : Nat) (a0_0 : Int) (a0_1 : Int) (l0_2 : List (S88)) (a0_3 : Int) (a0_4 : Int) (a1 : Int) : Option (Int × Int × (List (S88)) × Int × Int × Bool) := (impl_FlyPathOk.f k a0_0 a0_1 l0_2 a0_3 a0_4).bind fun t213 => (if t213 = true then ((impl_within.f a1 (-10000) 10000).bind fun t214 => (impl_FlyShift.j0 k a1 (!t214) a0_0 a0_1 l0_2 a0_3 a0_4)) else (impl_FlyShift.j0 k a1 true a0_0 a0_1 l0_2 a0_3 a0_4))
def impl_FlyShift.T3 : Bool × List (List Nat × List Nat) := (true, [([], []), ([0], [0]), ([], []), ([2], [2]), ([3], [3]), ([], []), ([5], [5]), ([], []), ([6, 7], [6, 7]), ([], []), ([9], [9]), ([], []), ([10, 11], [10, 11]), ([1, 4, 8, 12], [1, 4, 8, 12]), ([], []), ([14, 13, 4, 0, 1, 2, 3, 4, 5, 6, 7, 8, 9, 10, 11, 12, 13, 14], [13, 14])])
def impl_FlyShift.B3 : List Nat := [0, 1, 0, 4, 12, 0, 32, 0, 224, 0, 512, 0, 3584, 8191, 0, 32767]
theorem impl_FlyShift.tab3 : rtab .any (opsOf Try.f36 3) = impl_FlyShift.T3 := by kernel_rfl
theorem impl_FlyShift.bits3 : waitsOk impl_FlyShift.T3.2 impl_FlyShift.B3 = true := by kernel_rfl
set_option maxHeartbeats 8000000 in
set_option maxRecDepth 100000 in
theorem impl_FlyShift.calls (k : Nat) (a0_0 : Int) (a0_1 : Int) (A0_2 : Option Addr) (c0_2 : Nat) (l0_2 : List (S88)) (a0_3 : Int) (a0_4 : Int) (a1 : Int) (r1 : Int) (r2 : Int) (r3 : List (S88)) (r4 : Int) (r5 : Int) (r6 : Bool) (w : World) (hr0_2 : Kd.C k88 w A0_2 l0_2.length l0_2) (hc0_2 : l0_2.length ≤ c0_2) (h : impl_FlyShift.f k a0_0 a0_1 l0_2 a0_3 a0_4 a1 = some (r1, r2, r3, r4, r5, r6)) :
 Calls Try.prog 36 #[.agg #[.int .i64 a0_0, .int .i64 a0_1, .slice A0_2 l0_2.length c0_2, .int .i64 a0_3, .int .i64 a0_4], .int .i64 a1] w fun e w' => ∃ v2_ : Value, e = .returned (.tuple #[.agg #[.int .i64 r1, .int .i64 r2, v2_, .int .i64 r4, .int .i64 r5], .bool r6]) ∧ Kd.R k88 88 w' w.heap.size (fun _ => True) v2_ r3 ∧ Below w.heap.size w w' := by
 have hu34 := Try.underlying34
 have hu31 := Try.underlying31
 have HR0_2 := Aside0.mk hr0_2
 have HC0_2 := Aside0.mk hc0_2
 clear hr0_2 hc0_2
 have HB := Aside0.mk (Below.refl w.heap.size w)
 have H : ((impl_FlyPathOk.f k a0_0 a0_1 l0_2 a0_3 a0_4).bind fun t213 => (if t213 = true then ((impl_within.f a1 (-10000) 10000).bind fun t214 => (impl_FlyShift.j0 k a1 (!t214) a0_0 a0_1 l0_2 a0_3 a0_4)) else (impl_FlyShift.j0 k a1 true a0_0 a0_1 l0_2 a0_3 a0_4))) = some (r1, r2, r3, r4, r5, r6) := h
 clear h
 have HC3 := Aside0.mk H
 clear H
 go_enter Try.func36, Try.ntmps36
 go_upto_region 1 with (first | ((with_reducible refine gate_dst (N := 2) rfl ?_); refine box_event (by rfl) (N := 2) (by rfl) (cs := #[.int .i64 a0_0, .int .i64 a0_1, .slice A0_2 l0_2.length c0_2, .int .i64 a0_3, .int .i64 a0_4]) (t := 34) zg ?_; intro gb211 hg w4 hbox hb; have n0_ := Aside0.mk (below_step (zs0 HB) hb); have n1_ := Aside0.mk (hbox); have n2_ := Aside0.mk ((by rw [hg]; exact (below_size (zs0 HB)) : w.heap.size ≤ gb211)); have n3_ := Aside0.mk ((by rw [hg]; exact (below_size (zs0 HB)) : w.heap.size ≤ gb211)); clear HB; have HB := n0_; have BK211 := n1_; have GW211 := n2_; have GE211 := n3_; clear n0_ n1_ n2_ n3_; clear hb hbox hg) | ((with_reducible refine gate_dst (N := 4) rfl ?_); refine box_event (by rfl) (N := 4) (by rfl) (cs := #[.int .i64 0, .int .i64 0, .slice none 0 0, .int .i64 0, .int .i64 0]) (t := 34) zg ?_; intro gb212 hg w5 hbox hb; have n0_ := zb BK211 hb; have n1_ := Aside0.mk (below_step (zs1 HB GE211) hb); have n2_ := Aside0.mk (hbox); have n3_ := Aside0.mk ((by rw [hg]; exact (below_size (zs1 HB GE211)) : w.heap.size ≤ gb212)); have n4_ := Aside0.mk ((by rw [hg]; exact (below_size (zs1 HB GE211)) : w.heap.size ≤ gb212)); have n5_ := Aside0.mk ((by rw [hg]; exact Nat.ne_of_lt (blk_lt (g := gb211) (o := .cells #[.int .i64 a0_0, .int .i64 a0_1, .slice A0_2 l0_2.length c0_2, .int .i64 a0_3, .int .i64 a0_4] 34 (0, 0)) (zh BK211)) : gb211 ≠ gb212)); have n6_ := Aside0.mk ((by rw [hg]; exact Nat.ne_of_gt (blk_lt (g := gb211) (o := .cells #[.int .i64 a0_0, .int .i64 a0_1, .slice A0_2 l0_2.length c0_2, .int .i64 a0_3, .int .i64 a0_4] 34 (0, 0)) (zh BK211)) : gb212 ≠ gb211)); clear BK211; clear HB; have BK211 := n0_; have HB := n1_; have BK212 := n2_; have GW212 := n3_; have GE212 := n4_; have NB211_212 := n5_; have NB212_211 := n6_; clear n0_ n1_ n2_ n3_ n4_ n5_ n6_; clear hb hbox hg))
 (try simp only [Act.put, List.setIfInBounds_toArray, List.set_cons_zero, List.set_cons_succ])
 go_cut [15] (fun v15 wc => ∃ (kq : Nat) (x15_2 : Bool), v15 = .bool x15_2 ∧ Aside0 (impl_FlyShift.j0 kq a1 x15_2 a0_0 a0_1 l0_2 a0_3 a0_4 = some (r1, r2, r3, r4, r5, r6)) ∧ Aside0 (kq ≤ k) ∧ Aside0 (wc.heap[gb211]? = some (.cells #[.int .i64 a0_0, .int .i64 a0_1, (.slice A0_2 l0_2.length c0_2), .int .i64 a0_3, .int .i64 a0_4] 34 (0, 0))) ∧ Aside0 (wc.heap[gb212]? = some (.cells #[.int .i64 0, .int .i64 0, (.slice none 0 0), .int .i64 0, .int .i64 0] 34 (0, 0))) ∧ Aside0 (Below w.heap.size w wc))
 case first =>
  have H := HC3.out
  clear HC3
  replace H := Option.bind_eq_some_iff.mp H
  obtain ⟨t213, A60, H⟩ := H
  replace H : (if t213 = true then ((impl_within.f a1 (-10000) 10000).bind fun t214 => (impl_FlyShift.j0 k a1 (!t214) a0_0 a0_1 l0_2 a0_3 a0_4)) else (impl_FlyShift.j0 k a1 true a0_0 a0_1 l0_2 a0_3 a0_4)) = some (r1, r2, r3, r4, r5, r6) := H
  have A6 := Aside0.mk A60
  clear A60
  by_cases c7 : t213 = true
  rotate_left
  ·replace c7 := Bool.eq_false_iff.mpr c7
   subst c7
   have H1 : (impl_FlyShift.j0 k a1 true a0_0 a0_1 l0_2 a0_3 a0_4) = some (r1, r2, r3, r4, r5, r6) := by rw [if_neg (show ¬ (false = true) by decide)] at H; exact H
   clear H
   have H := H1
   clear H1
   have H' := Aside0.mk H
   clear H
   have hnb12 := NB211_212.out
   have hnc12 := NB212_211.out
   obtain ⟨hcz13_0, hcz13_1, hcz13_2, hcz13_3, hcz13_4⟩ := zd5 BK211
   obtain ⟨hfz13_0, hfz13_1, hfz13_2, hfz13_3, hfz13_4⟩ := zn5 BK211
   go_wp2_with (first | ((with_reducible refine gate_callee (f := 33) rfl ?_); refine goesL_ (some 9) rfl rfl Try.func33 (by kernel_rfl) rfl #[.agg #[.int .i64 a0_0, .int .i64 a0_1, .slice A0_2 l0_2.length c0_2, .int .i64 a0_3, .int .i64 a0_4]] rfl zl ?_; (with_reducible refine (impl_FlyPathOk.calls k a0_0 a0_1 _ _ l0_2 a0_3 a0_4 false _ ?side1 ?side2 A6.out).mono ?_); (case side1 => exact zC HR0_2 HB); (case side2 => exact HC0_2.out); rintro e w14 ⟨rfl, hb⟩; refine ⟨_, rfl, ?_⟩; have n0_ := zb BK211 hb; have n1_ := zb BK212 hb; have n2_ := Aside0.mk (below_step (zs2 HB GE211 GE212) hb); clear BK211 BK212 HB; revert n0_ n1_ n2_; intro BK211 BK212 HB; (try clear hb); (try clear hb2); (try clear hk); (try clear hi)))
   go_meet
   case rel => exact ⟨_, (true), zi, H', ⟨by first | omega | exact Nat.le_refl _⟩, ⟨zh BK211⟩, ⟨zh BK212⟩, ⟨zs2 HB GE211 GE212⟩⟩
  subst c7
  have H1 : ((impl_within.f a1 (-10000) 10000).bind fun t214 => (impl_FlyShift.j0 k a1 (!t214) a0_0 a0_1 l0_2 a0_3 a0_4)) = some (r1, r2, r3, r4, r5, r6) := by rw [if_pos rfl] at H; exact H
  clear H
  have H := H1
  clear H1
  replace H := Option.bind_eq_some_iff.mp H
  obtain ⟨t214, A80, H⟩ := H
  replace H : (impl_FlyShift.j0 k a1 (!t214) a0_0 a0_1 l0_2 a0_3 a0_4) = some (r1, r2, r3, r4, r5, r6) := H
  have A8 := Aside0.mk A80
  clear A80
  have H' := Aside0.mk H
  clear H
  have hnb9 := NB211_212.out
  have hnc9 := NB212_211.out
  obtain ⟨hcz10_0, hcz10_1, hcz10_2, hcz10_3, hcz10_4⟩ := zd5 BK211
  obtain ⟨hfz10_0, hfz10_1, hfz10_2, hfz10_3, hfz10_4⟩ := zn5 BK211
  go_wp2_with (first | ((with_reducible refine gate_callee (f := 33) rfl ?_); refine goesL_ (some 9) rfl rfl Try.func33 (by kernel_rfl) rfl #[.agg #[.int .i64 a0_0, .int .i64 a0_1, .slice A0_2 l0_2.length c0_2, .int .i64 a0_3, .int .i64 a0_4]] rfl zl ?_; (with_reducible refine (impl_FlyPathOk.calls k a0_0 a0_1 _ _ l0_2 a0_3 a0_4 true _ ?side1 ?side2 A6.out).mono ?_); (case side1 => exact zC HR0_2 HB); (case side2 => exact HC0_2.out); rintro e w11 ⟨rfl, hb⟩; refine ⟨_, rfl, ?_⟩; have n0_ := zb BK211 hb; have n1_ := zb BK212 hb; have n2_ := Aside0.mk (below_step (zs2 HB GE211 GE212) hb); clear BK211 BK212 HB; revert n0_ n1_ n2_; intro BK211 BK212 HB; (try clear hb); (try clear hb2); (try clear hk); (try clear hi)) | (go_at_call 68; (with_reducible refine (impl_within.calls a1 (-10000) 10000 t214 _ A8.out).mono ?_); rintro e w' ⟨rfl, ⟨nd, rfl⟩⟩))
  go_meet
  case rel => exact ⟨_, (!t214), zi, H', ⟨by first | omega | exact Nat.le_refl _⟩, ⟨zh BK211⟩, ⟨zh BK212⟩, ⟨zs2 HB GE211 GE212⟩⟩
 case rest =>
  clear HC3
  try clear c1
  try clear p2
  try clear c3
  try clear c7
  try clear c9
  try clear c12
  try clear hcz10_0
  try clear hcz10_1
  try clear hcz10_2
  try clear hcz10_3
  try clear hcz10_4
  try clear hcz13_0
  try clear hcz13_1
  try clear hcz13_2
  try clear hcz13_3
  try clear hcz13_4
  try clear hfz10_0
  try clear hfz10_1
  try clear hfz10_2
  try clear hfz10_3
  try clear hfz10_4
  try clear hfz13_0
  try clear hfz13_1
  try clear hfz13_2
  try clear hfz13_3
  try clear hfz13_4
  obtain ⟨kq, x15_2, rfl, HA, HJ2, BK211, BK212, HB⟩ := hcut
  cases kq with
  | zero => exact absurd HA.out (by simp [impl_FlyShift.j0])
  | succ kj2 =>
   have H := HA.out
   clear HA
   simp only [impl_FlyShift.j0] at H
   by_cases c15 : x15_2 = true
   ·subst c15
    have H1 : (some (0, 0, ([] : List (S88)), 0, 0, false)) = some (r1, r2, r3, r4, r5, r6) := by rw [if_pos rfl] at H; exact H
    clear H
    have H := H1
    clear H1
    simp only [Option.some.injEq, Prod.mk.injEq] at H
    obtain ⟨rfl, rfl, rfl, rfl, rfl, rfl⟩ := H
    have hnb16 := NB212_211.out
    have hnc16 := NB211_212.out
    obtain ⟨hcz17_0, hcz17_1, hcz17_2, hcz17_3, hcz17_4⟩ := zd5 BK212
    obtain ⟨hfz17_0, hfz17_1, hfz17_2, hfz17_3, hfz17_4⟩ := zn5 BK212
    go_wp2
    refine bodyPost_ret (results_ct rfl _ _ gb212 34 #[.int .i64 0, .int .i64 0, .slice none 0 0, .int .i64 0, .int .i64 0] (0, 0) _ rfl (by (with_reducible repeat (first | refine blk_drewN ?_ _ | refine blk_drew ?_ | refine blk_alloc ?_ _)); refine blk_put (cs := #[.int .i64 0, .int .i64 0, .slice none 0 0, .int .i64 0, .int .i64 0]) ?_ 4 _ rfl; (with_reducible repeat (first | refine blk_drewN ?_ _ | refine blk_drew ?_ | refine blk_alloc ?_ _)); refine blk_put (cs := #[.int .i64 0, .int .i64 0, .slice none 0 0, .int .i64 0, .int .i64 0]) ?_ 3 _ rfl; (with_reducible repeat (first | refine blk_drewN ?_ _ | refine blk_drew ?_ | refine blk_alloc ?_ _)); refine blk_put (cs := #[.int .i64 0, .int .i64 0, .slice none 0 0, .int .i64 0, .int .i64 0]) ?_ 2 _ rfl; (with_reducible repeat (first | refine blk_drewN ?_ _ | refine blk_drew ?_ | refine blk_alloc ?_ _)); refine blk_put (cs := #[.int .i64 0, .int .i64 0, .slice none 0 0, .int .i64 0, .int .i64 0]) ?_ 1 _ rfl; (with_reducible repeat (first | refine blk_drewN ?_ _ | refine blk_drew ?_ | refine blk_alloc ?_ _)); refine blk_put (cs := #[.int .i64 0, .int .i64 0, .slice none 0 0, .int .i64 0, .int .i64 0]) ?_ 0 _ rfl; (with_reducible repeat (first | refine blk_drewN ?_ _ | refine blk_drew ?_ | refine blk_alloc ?_ _)); exact BK212.out) Try.underlying34 rfl (by kernel_rfl)) rfl ?_
    exact ⟨_, ze, by first | exact Kd.R_nil _ _ _ _ _ | exact Kd.N_nil _ _ _ _ _ | exact Kd.V_nil _ _ _ _ _ | exact Kd.Q_nil _ _ _ _ _ | exact Kd.S_nil _ _ _ _ _, zs2 HB GE211 GE212⟩
   replace c15 := Bool.eq_false_iff.mpr c15
   subst c15
   have H1 : (if ([] : List (S88)).length + l0_2.length < 2513169434916 then ((some (([] : List (S88)) ++ l0_2 : List (S88))).bind fun y215 => (impl_FlyShift.l0 kj2 a1 (y215.length : Int) 0 a0_0 a0_1 y215 (wrap64 (a0_3 + a1)) (wrap64 (a0_4 + a1)))) else (none)) = some (r1, r2, r3, r4, r5, r6) := by rw [if_neg (show ¬ (false = true) by decide)] at H; exact H
   clear H
   have H := H1
   clear H1
   by_cases c18 : ([] : List (S88)).length + l0_2.length < 2513169434916
   rotate_left
   ·rw [if_neg c18] at H
    exact absurd H (by simp)
   rw [if_pos c18] at H
   have LMc18 := Aside0.mk c18
   clear c18
   obtain ⟨y215, hy215⟩ : ∃ y_ : List (S88), y_ = (([] : List (S88)) ++ l0_2) := ⟨_, rfl⟩
   replace H : (impl_FlyShift.l0 kj2 a1 (y215.length : Int) 0 a0_0 a0_1 y215 (wrap64 (a0_3 + a1)) (wrap64 (a0_4 + a1))) = some (r1, r2, r3, r4, r5, r6) := by first | (rw [hy215]; with_reducible exact H) | (have H2_ := (Option.bind_some _ _).symm.trans H; rw [hy215]; with_reducible exact H2_) | (have H2_ := (Option.bind_some _ _).symm.trans H; with_reducible exact H2_) | with_reducible exact H | (rw [hy215]; exact H) | exact H
   have Ny215 := Aside0.mk hy215
   clear hy215
   have H' := Aside0.mk H
   clear H
   try go_wp2
   have n0_ := Aside0.mk (blk_drew BK211.out)
   have n1_ := Aside0.mk (blk_drew BK212.out)
   have n2_ := Aside0.mk (below_drew1 HB.out)
   clear BK211 BK212 HB
   revert n0_ n1_ n2_
   intro BK211 BK212 HB
   refine start_ (n := 16) (S := fun w' => w'.cell? ⟨gb211, 0, none⟩ = some (.int .i64 a0_0) ∧ w'.cell? ⟨gb211, 1, none⟩ = some (.int .i64 a0_1) ∧ w'.cell? ⟨gb211, 2, none⟩ = some (.slice A0_2 l0_2.length c0_2) ∧ w'.cell? ⟨gb211, 3, none⟩ = some (.int .i64 a0_3) ∧ w'.cell? ⟨gb211, 4, none⟩ = some (.int .i64 a0_4)) (ds := []) #[false, false, false, false, false, false, false, false, false, false, false, false, false, false, false, false] (by kernel_rfl) rfl rfl ⟨(blk_cell BK211.out 0).trans rfl, (blk_cell BK211.out 1).trans rfl, (blk_cell BK211.out 2).trans rfl, (blk_cell BK211.out 3).trans rfl, (blk_cell BK211.out 4).trans rfl⟩ (fun hHeld => ?_); refine with_tabW impl_FlyShift.tab3 impl_FlyShift.bits3 (fun HT_ HW_ => ?_)
   generalize wc.drew = w19 at BK211 BK212 HB hHeld ⊢
   refine pure_ (i := 0) (N := some 17) (v := ?_) (a' := ?_) #[true, false, false, false, false, false, false, false, false, false, false, false, false, false, false, false] rfl rfl (any_of HT_.out (by kernel_rfl)) (fun _ _ _ h => h) (Or.inl ⟨by rfl, ?_⟩) ?_ ?_; rotate_left; exact zy; rotate_left; exact zput
   refine pure_ (i := 2) (N := some 19) (v := ?_) (a' := ?_) #[true, false, true, false, false, false, false, false, false, false, false, false, false, false, false, false] rfl rfl (any_of HT_.out (by kernel_rfl)) (fun _ _ _ h => h) (Or.inl ⟨by rfl, ?_⟩) ?_ ?_; rotate_left; exact zy; rotate_left; exact zput
   refine pure_ (i := 5) (N := some 22) (v := ?_) (a' := ?_) #[true, false, true, false, false, true, false, false, false, false, false, false, false, false, false, false] rfl rfl (any_of HT_.out (by kernel_rfl)) (fun _ _ _ h => h) (Or.inl ⟨by rfl, ?_⟩) ?_ ?_; rotate_left; exact zy; rotate_left; exact zput
   refine pure_ (i := 7) (N := some 24) (v := ?_) (a' := ?_) #[true, false, true, false, false, true, false, true, false, false, false, false, false, false, false, false] rfl rfl (any_of HT_.out (by kernel_rfl)) (fun _ _ _ h => h) (Or.inl ⟨by rfl, ?_⟩) ?_ ?_; rotate_left; exact zy; rotate_left; exact zput
   refine pure_ (i := 9) (N := some 26) (v := ?_) (a' := ?_) #[true, false, true, false, false, true, false, true, false, true, false, false, false, false, false, false] rfl rfl (any_of HT_.out (by kernel_rfl)) (fun _ _ _ h => h) (Or.inl ⟨by rfl, ?_⟩) ?_ ?_; rotate_left; exact zy; rotate_left; exact zput
   refine pure_ (i := 11) (N := some 28) (v := ?_) (a' := ?_) #[true, false, true, false, false, true, false, true, false, true, false, true, false, false, false, false] rfl rfl (any_of HT_.out (by kernel_rfl)) (fun _ _ _ h => h) (Or.inl ⟨by rfl, ?_⟩) ?_ ?_; rotate_left; exact zy; rotate_left; exact zput
   refine take_ (i := 1) (N := some 18) (v := ?_) (a' := ?_) #[true, true, true, false, false, true, false, true, false, true, false, true, false, false, false, false] rfl rfl (take_ofW HT_.out HW_.out (by kernel_rfl)) (fun _ _ _ h => h) (Or.inl ⟨by rfl, ?_⟩) hHeld ?_ ?_; rotate_left; exact zt5; rotate_left; exact zput
   refine take_ (i := 3) (N := some 20) (v := ?_) (a' := ?_) #[true, true, true, true, false, true, false, true, false, true, false, true, false, false, false, false] rfl rfl (take_ofW HT_.out HW_.out (by kernel_rfl)) (fun _ _ _ h => h) (Or.inl ⟨by rfl, ?_⟩) hHeld ?_ ?_; rotate_left; exact zt5; rotate_left; exact zput
   refine take_ (i := 6) (N := some 23) (v := ?_) (a' := ?_) #[true, true, true, true, false, true, true, true, false, true, false, true, false, false, false, false] rfl rfl (take_ofW HT_.out HW_.out (by kernel_rfl)) (fun _ _ _ h => h) (Or.inl ⟨by rfl, ?_⟩) hHeld ?_ ?_; rotate_left; exact zt5; rotate_left; exact zput
   refine pure_ (i := 8) (N := some 25) (v := ?_) (a' := ?_) #[true, true, true, true, false, true, true, true, true, true, false, true, false, false, false, false] rfl rfl (any_of HT_.out (by kernel_rfl)) (fun _ _ _ h => h) (Or.inl ⟨by rfl, ?_⟩) ?_ ?_; rotate_left; exact zy; rotate_left; exact zput
   refine take_ (i := 10) (N := some 27) (v := ?_) (a' := ?_) #[true, true, true, true, false, true, true, true, true, true, true, true, false, false, false, false] rfl rfl (take_ofW HT_.out HW_.out (by kernel_rfl)) (fun _ _ _ h => h) (Or.inl ⟨by rfl, ?_⟩) hHeld ?_ ?_; rotate_left; exact zt5; rotate_left; exact zput
   refine pure_ (i := 12) (N := some 29) (v := ?_) (a' := ?_) #[true, true, true, true, false, true, true, true, true, true, true, true, true, false, false, false] rfl rfl (any_of HT_.out (by kernel_rfl)) (fun _ _ _ h => h) (Or.inl ⟨by rfl, ?_⟩) ?_ ?_; rotate_left; exact zy; rotate_left; exact zput
   refine join_ (σ := Value × Nat) 1 #[true, true, true, true, true, true, true, true, true, true, true, true, true, true, true, false] (fun s_ => [(21, s_.1), (6, .pointer (some ⟨s_.2, 0, none⟩)), (30, .agg #[.int .i64 a0_0, .int .i64 a0_1, s_.1, .int .i64 (wrap64 (a0_3 + a1)), .int .i64 (wrap64 (a0_4 + a1))])]) (fun s_ w' => (w'.cell? ⟨gb211, 0, none⟩ = some (.int .i64 a0_0) ∧ w'.cell? ⟨gb211, 1, none⟩ = some (.int .i64 a0_1) ∧ w'.cell? ⟨gb211, 2, none⟩ = some (.slice A0_2 l0_2.length c0_2) ∧ w'.cell? ⟨gb211, 3, none⟩ = some (.int .i64 a0_3) ∧ w'.cell? ⟨gb211, 4, none⟩ = some (.int .i64 a0_4)) ∧ (Kd.R k88 88 w' w.heap.size (fun _ => True) s_.1 y215) ∧ (w'.heap[gb211]? = some (.cells #[.int .i64 a0_0, .int .i64 a0_1, .slice A0_2 l0_2.length c0_2, .int .i64 a0_3, .int .i64 a0_4] 34 (0, 0))) ∧ (w'.heap[gb212]? = some (.cells #[.int .i64 0, .int .i64 0, .slice none 0 0, .int .i64 0, .int .i64 0] 34 (0, 0))) ∧ (w'.heap[s_.2]? = some (.cells #[.int .i64 0, .int .i64 0, .slice none 0 0, .int .i64 0, .int .i64 0] 34 (0, 0))) ∧ (w.heap.size ≤ s_.2) ∧ (w.heap.size ≤ s_.2) ∧ (gb211 ≠ s_.2) ∧ (s_.2 ≠ gb211) ∧ (gb212 ≠ s_.2) ∧ (s_.2 ≠ gb212) ∧ (Below w.heap.size w w')) ?_ ?_
   rotate_left
   ·intro hCont
    refine two_ (i := 4) (j := 14) (Ni := some 21) (Nj := some 6) #[true, true, true, true, true, true, true, true, true, true, true, true, true, false, false, false] #[true, true, true, true, false, true, true, true, true, true, true, true, true, false, true, false] rfl rfl rfl rfl (two_of HT_.out (by kernel_rfl)) (by decide) (by decide) (fun K hK => ?_) (fun K hK => ?_)
    ·skip
     refine Kd.R_append_rows_step k88 (w0 := w) w.heap.size rfl (.const (.slice none 0 0)) (.tmp 20) 32 88 (.agg #[(.int .i64 0), (.int .i64 0), (.int .i64 0), (.int .i64 0), (.int .i64 0), (.int .i64 0), (.bool false)]) 56 rfl Try.underlying32 info88 rfl (by decide) (by omega) (.slice none 0 0) ([] : List (S88)) l0_2 _ _ _ (fun _ => True) (fun _ => False) rfl rfl ?aO ?aR (fun _ _ h => h) (fun _ h => h.elim) ?aF ?aB ?aS ?aL ?_
     (case aR => repeat (first | exact (Kd.C_below HR0_2.out HB.out) | (with_reducible refine Kd.C_alloc ?_ _) | (with_reducible refine Kd.C_drewN ?_ _) | (with_reducible refine Kd.C_drew ?_)))
     (case aB => exact (zs2 HB GE211 GE212))
     (case aF => exact (fun _ _ => trivial))
     (case aO => exact ((Kd.R_nil _ _ _ _ (fun _ => True))))
     (case aS => exact (below_size (zs2 HB GE211 GE212)))
     (case aL => have := LMc18.out; omega)
     intro v216 w20 ho hb hg hat
     rw [← Ny215.out] at ho
     have n0_ := Aside0.mk (blk_grown (g := gb211) (o := .cells #[.int .i64 a0_0, .int .i64 a0_1, .slice A0_2 l0_2.length c0_2, .int .i64 a0_3, .int .i64 a0_4] 34 (0, 0)) (zh BK211) hg (by simp [Value.ownBlock]))
     have n1_ := Aside0.mk (blk_grown (g := gb212) (o := .cells #[.int .i64 0, .int .i64 0, .slice none 0 0, .int .i64 0, .int .i64 0] 34 (0, 0)) (zh BK212) hg (by simp [Value.ownBlock]))
     have n2_ := Aside0.mk (hb)
     have n3_ := Aside0.mk (ho)
     clear BK211
     clear BK212
     clear HB
     have BK211 := n0_
     have BK212 := n1_
     have HB := n2_
     have HO217 := n3_
     clear n0_ n1_ n2_ n3_
     clear ho hb hg hat
     obtain ⟨Ao21, co21, eo21⟩ := Kd.R_slice HO217.out
     (first | subst eo21 | (injection eo21 with f1_ f2_ f3_; have f4_ := f1_.symm; have f5_ := f3_.symm; clear f1_ f2_ f3_; subst f4_; subst f5_))
     refine hK.out _ _ ⟨(blk_cell BK211.out 0).trans rfl, (blk_cell BK211.out 1).trans rfl, (blk_cell BK211.out 2).trans rfl, (blk_cell BK211.out 3).trans rfl, (blk_cell BK211.out 4).trans rfl⟩ (fun hHeld => ?_)
     clear hK K
     refine norm_ (a' := ?_) ?_ ?_
     rotate_left
     ·show Act.put _ (some 21) _ = _
      simp only [Act.put, List.setIfInBounds_toArray, List.set_cons_zero, List.set_cons_succ, i64_w, i32_w]
      rfl
     refine pure_ (i := 13) (N := some 30) (v := ?_) (a' := ?_) #[true, true, true, true, true, true, true, true, true, true, true, true, true, true, false, false] rfl rfl (any_of HT_.out (by kernel_rfl)) (fun _ _ _ h => h) (Or.inl ⟨by rfl, ?_⟩) ?_ ?_; rotate_left; exact zy; rotate_left; exact zput
     refine one_ (i := 14) (N := some 6) #[true, true, true, true, true, true, true, true, true, true, true, true, true, true, true, false] rfl rfl (one_of HT_.out (by kernel_rfl)) (by decide) (fun K hK => ?_)
     refine box_step (by rfl) (N := 6) (by rfl) (cs := #[.int .i64 0, .int .i64 0, .slice none 0 0, .int .i64 0, .int .i64 0]) (t := 34) zg ?_
     intro gb218 hg w22 hbox hb
     have n0_ := Aside0.mk (Kd.R_below (zr HO217) hb)
     have n1_ := zb BK211 hb
     have n2_ := zb BK212 hb
     have n3_ := Aside0.mk (below_step (zs2 HB GE211 GE212) hb)
     have n4_ := Aside0.mk (hbox)
     have n5_ := Aside0.mk ((by rw [hg]; exact (below_size (zs2 HB GE211 GE212)) : w.heap.size ≤ gb218))
     have n6_ := Aside0.mk ((by rw [hg]; exact (below_size (zs2 HB GE211 GE212)) : w.heap.size ≤ gb218))
     have n7_ := Aside0.mk ((by rw [hg]; exact Nat.ne_of_lt (blk_lt (g := gb211) (o := .cells #[.int .i64 a0_0, .int .i64 a0_1, .slice A0_2 l0_2.length c0_2, .int .i64 a0_3, .int .i64 a0_4] 34 (0, 0)) (zh BK211)) : gb211 ≠ gb218))
     have n8_ := Aside0.mk ((by rw [hg]; exact Nat.ne_of_gt (blk_lt (g := gb211) (o := .cells #[.int .i64 a0_0, .int .i64 a0_1, .slice A0_2 l0_2.length c0_2, .int .i64 a0_3, .int .i64 a0_4] 34 (0, 0)) (zh BK211)) : gb218 ≠ gb211))
     have n9_ := Aside0.mk ((by rw [hg]; exact Nat.ne_of_lt (blk_lt (g := gb212) (o := .cells #[.int .i64 0, .int .i64 0, .slice none 0 0, .int .i64 0, .int .i64 0] 34 (0, 0)) (zh BK212)) : gb212 ≠ gb218))
     have n10_ := Aside0.mk ((by rw [hg]; exact Nat.ne_of_gt (blk_lt (g := gb212) (o := .cells #[.int .i64 0, .int .i64 0, .slice none 0 0, .int .i64 0, .int .i64 0] 34 (0, 0)) (zh BK212)) : gb218 ≠ gb212))
     clear HO217
     clear BK211
     clear BK212
     clear HB
     have HO217 := n0_
     have BK211 := n1_
     have BK212 := n2_
     have HB := n3_
     have BK218 := n4_
     have GW218 := n5_
     have GE218 := n6_
     have NB211_218 := n7_
     have NB218_211 := n8_
     have NB212_218 := n9_
     have NB218_212 := n10_
     clear n0_ n1_ n2_ n3_ n4_ n5_ n6_ n7_ n8_ n9_ n10_
     clear hb hbox hg
     refine hK.out _ _ ⟨(blk_cell BK211.out 0).trans rfl, (blk_cell BK211.out 1).trans rfl, (blk_cell BK211.out 2).trans rfl, (blk_cell BK211.out 3).trans rfl, (blk_cell BK211.out 4).trans rfl⟩ (fun hHeld => ?_)
     clear hK K
     refine norm_ (a' := ?_) ?_ ?_
     rotate_left
     ·show Act.put _ (some 6) _ = _
      simp only [Act.put, List.setIfInBounds_toArray, List.set_cons_zero, List.set_cons_succ, i64_w, i32_w]
      rfl
     exact norm_ (by simp only [putAll, Act.put, List.setIfInBounds_toArray, List.set_cons_zero, List.set_cons_succ]) (hCont (.slice Ao21 y215.length co21, gb218) _ ⟨hHeld, (zr HO217), (zh BK211), (zh BK212), (zh BK218), GW218.out, GE218.out, NB211_218.out, NB218_211.out, NB212_218.out, NB218_212.out, (zs3 HB GE211 GE212 GE218)⟩)
    ·skip
     refine box_step (by rfl) (N := 6) (by rfl) (cs := #[.int .i64 0, .int .i64 0, .slice none 0 0, .int .i64 0, .int .i64 0]) (t := 34) zg ?_
     intro gb218 hg w20 hbox hb
     have n0_ := zb BK211 hb
     have n1_ := zb BK212 hb
     have n2_ := Aside0.mk (below_step (zs2 HB GE211 GE212) hb)
     have n3_ := Aside0.mk (hbox)
     have n4_ := Aside0.mk ((by rw [hg]; exact (below_size (zs2 HB GE211 GE212)) : w.heap.size ≤ gb218))
     have n5_ := Aside0.mk ((by rw [hg]; exact (below_size (zs2 HB GE211 GE212)) : w.heap.size ≤ gb218))
     have n6_ := Aside0.mk ((by rw [hg]; exact Nat.ne_of_lt (blk_lt (g := gb211) (o := .cells #[.int .i64 a0_0, .int .i64 a0_1, .slice A0_2 l0_2.length c0_2, .int .i64 a0_3, .int .i64 a0_4] 34 (0, 0)) (zh BK211)) : gb211 ≠ gb218))
     have n7_ := Aside0.mk ((by rw [hg]; exact Nat.ne_of_gt (blk_lt (g := gb211) (o := .cells #[.int .i64 a0_0, .int .i64 a0_1, .slice A0_2 l0_2.length c0_2, .int .i64 a0_3, .int .i64 a0_4] 34 (0, 0)) (zh BK211)) : gb218 ≠ gb211))
     have n8_ := Aside0.mk ((by rw [hg]; exact Nat.ne_of_lt (blk_lt (g := gb212) (o := .cells #[.int .i64 0, .int .i64 0, .slice none 0 0, .int .i64 0, .int .i64 0] 34 (0, 0)) (zh BK212)) : gb212 ≠ gb218))
     have n9_ := Aside0.mk ((by rw [hg]; exact Nat.ne_of_gt (blk_lt (g := gb212) (o := .cells #[.int .i64 0, .int .i64 0, .slice none 0 0, .int .i64 0, .int .i64 0] 34 (0, 0)) (zh BK212)) : gb218 ≠ gb212))
     clear BK211
     clear BK212
     clear HB
     have BK211 := n0_
     have BK212 := n1_
     have HB := n2_
     have BK218 := n3_
     have GW218 := n4_
     have GE218 := n5_
     have NB211_218 := n6_
     have NB218_211 := n7_
     have NB212_218 := n8_
     have NB218_212 := n9_
     clear n0_ n1_ n2_ n3_ n4_ n5_ n6_ n7_ n8_ n9_
     clear hb hbox hg
     refine hK.out _ _ ⟨(blk_cell BK211.out 0).trans rfl, (blk_cell BK211.out 1).trans rfl, (blk_cell BK211.out 2).trans rfl, (blk_cell BK211.out 3).trans rfl, (blk_cell BK211.out 4).trans rfl⟩ (fun hHeld => ?_)
     clear hK K
     refine norm_ (a' := ?_) ?_ ?_
     rotate_left
     ·show Act.put _ (some 6) _ = _
      simp only [Act.put, List.setIfInBounds_toArray, List.set_cons_zero, List.set_cons_succ, i64_w, i32_w]
      rfl
     refine one_ (i := 4) (N := some 21) #[true, true, true, true, true, true, true, true, true, true, true, true, true, false, true, false] rfl rfl (one_of HT_.out (by kernel_rfl)) (by decide) (fun K hK => ?_)
     refine Kd.R_append_rows_step k88 (w0 := w) w.heap.size rfl (.const (.slice none 0 0)) (.tmp 20) 32 88 (.agg #[(.int .i64 0), (.int .i64 0), (.int .i64 0), (.int .i64 0), (.int .i64 0), (.int .i64 0), (.bool false)]) 56 rfl Try.underlying32 info88 rfl (by decide) (by omega) (.slice none 0 0) ([] : List (S88)) l0_2 _ _ _ (fun _ => True) (fun _ => False) rfl rfl ?aO ?aR (fun _ _ h => h) (fun _ h => h.elim) ?aF ?aB ?aS ?aL ?_
     (case aR => repeat (first | exact (Kd.C_below HR0_2.out HB.out) | (with_reducible refine Kd.C_alloc ?_ _) | (with_reducible refine Kd.C_drewN ?_ _) | (with_reducible refine Kd.C_drew ?_)))
     (case aB => exact (zs3 HB GE211 GE212 GE218))
     (case aF => exact (fun _ _ => trivial))
     (case aO => exact ((Kd.R_nil _ _ _ _ (fun _ => True))))
     (case aS => exact (below_size (zs3 HB GE211 GE212 GE218)))
     (case aL => have := LMc18.out; omega)
     intro v216 w21 ho hb hg hat
     rw [← Ny215.out] at ho
     have n0_ := Aside0.mk (blk_grown (g := gb211) (o := .cells #[.int .i64 a0_0, .int .i64 a0_1, .slice A0_2 l0_2.length c0_2, .int .i64 a0_3, .int .i64 a0_4] 34 (0, 0)) (zh BK211) hg (by simp [Value.ownBlock]))
     have n1_ := Aside0.mk (blk_grown (g := gb212) (o := .cells #[.int .i64 0, .int .i64 0, .slice none 0 0, .int .i64 0, .int .i64 0] 34 (0, 0)) (zh BK212) hg (by simp [Value.ownBlock]))
     have n2_ := Aside0.mk (blk_grown (g := gb218) (o := .cells #[.int .i64 0, .int .i64 0, .slice none 0 0, .int .i64 0, .int .i64 0] 34 (0, 0)) (zh BK218) hg (by simp [Value.ownBlock]))
     have n3_ := Aside0.mk (hb)
     have n4_ := Aside0.mk (ho)
     clear BK211
     clear BK212
     clear BK218
     clear HB
     have BK211 := n0_
     have BK212 := n1_
     have BK218 := n2_
     have HB := n3_
     have HO217 := n4_
     clear n0_ n1_ n2_ n3_ n4_
     clear ho hb hg hat
     obtain ⟨Ao22, co22, eo22⟩ := Kd.R_slice HO217.out
     (first | subst eo22 | (injection eo22 with f1_ f2_ f3_; have f4_ := f1_.symm; have f5_ := f3_.symm; clear f1_ f2_ f3_; subst f4_; subst f5_))
     refine hK.out _ _ ⟨(blk_cell BK211.out 0).trans rfl, (blk_cell BK211.out 1).trans rfl, (blk_cell BK211.out 2).trans rfl, (blk_cell BK211.out 3).trans rfl, (blk_cell BK211.out 4).trans rfl⟩ (fun hHeld => ?_)
     clear hK K
     refine norm_ (a' := ?_) ?_ ?_
     rotate_left
     ·show Act.put _ (some 21) _ = _
      simp only [Act.put, List.setIfInBounds_toArray, List.set_cons_zero, List.set_cons_succ, i64_w, i32_w]
      rfl
     refine pure_ (i := 13) (N := some 30) (v := ?_) (a' := ?_) #[true, true, true, true, true, true, true, true, true, true, true, true, true, true, true, false] rfl rfl (any_of HT_.out (by kernel_rfl)) (fun _ _ _ h => h) (Or.inl ⟨by rfl, ?_⟩) ?_ ?_; rotate_left; exact zy; rotate_left; exact zput
     exact norm_ (by simp only [putAll, Act.put, List.setIfInBounds_toArray, List.set_cons_zero, List.set_cons_succ]) (hCont (.slice Ao22 y215.length co22, gb218) _ ⟨hHeld, (zr HO217), (zh BK211), (zh BK212), (zh BK218), GW218.out, GE218.out, NB211_218.out, NB218_211.out, NB212_218.out, NB218_212.out, (zs3 HB GE211 GE212 GE218)⟩)
   rintro ⟨v216, gb218⟩ w23 ⟨hS_, h0_, h1_, h2_, h3_, h4_, h5_, h6_, h7_, h8_, h9_, h10_⟩
   have n0_ : Aside0 (Kd.R k88 88 w23 w.heap.size (fun _ => True) v216 y215) := ⟨h0_⟩
   have n1_ : Aside0 (w23.heap[gb211]? = some (.cells #[.int .i64 a0_0, .int .i64 a0_1, .slice A0_2 l0_2.length c0_2, .int .i64 a0_3, .int .i64 a0_4] 34 (0, 0))) := ⟨h1_⟩
   have n2_ : Aside0 (w23.heap[gb212]? = some (.cells #[.int .i64 0, .int .i64 0, .slice none 0 0, .int .i64 0, .int .i64 0] 34 (0, 0))) := ⟨h2_⟩
   have n3_ : Aside0 (w23.heap[gb218]? = some (.cells #[.int .i64 0, .int .i64 0, .slice none 0 0, .int .i64 0, .int .i64 0] 34 (0, 0))) := ⟨h3_⟩
   have n4_ : Aside0 (w.heap.size ≤ gb218) := ⟨h4_⟩
   have n5_ : Aside0 (w.heap.size ≤ gb218) := ⟨h5_⟩
   have n6_ : Aside0 (gb211 ≠ gb218) := ⟨h6_⟩
   have n7_ : Aside0 (gb218 ≠ gb211) := ⟨h7_⟩
   have n8_ : Aside0 (gb212 ≠ gb218) := ⟨h8_⟩
   have n9_ : Aside0 (gb218 ≠ gb212) := ⟨h9_⟩
   have n10_ : Aside0 (Below w.heap.size w w23) := ⟨h10_⟩
   clear BK211
   clear BK212
   clear HB
   clear h0_ h1_ h2_ h3_ h4_ h5_ h6_ h7_ h8_ h9_ h10_
   have HO217 := n0_
   have BK211 := n1_
   have BK212 := n2_
   have BK218 := n3_
   have GW218 := n4_
   have GE218 := n5_
   have NB211_218 := n6_
   have NB218_211 := n7_
   have NB212_218 := n8_
   have NB218_212 := n9_
   have HB := n10_
   clear n0_ n1_ n2_ n3_ n4_ n5_ n6_ n7_ n8_ n9_ n10_
   have hHeld : w23.cell? ⟨gb211, 0, none⟩ = some (.int .i64 a0_0) ∧ w23.cell? ⟨gb211, 1, none⟩ = some (.int .i64 a0_1) ∧ w23.cell? ⟨gb211, 2, none⟩ = some (.slice A0_2 l0_2.length c0_2) ∧ w23.cell? ⟨gb211, 3, none⟩ = some (.int .i64 a0_3) ∧ w23.cell? ⟨gb211, 4, none⟩ = some (.int .i64 a0_4) := hS_
   obtain ⟨Ao24, co24, eo24⟩ := Kd.R_slice HO217.out
   (first | subst eo24 | (injection eo24 with f1_ f2_ f3_; have f4_ := f1_.symm; have f5_ := f3_.symm; clear f1_ f2_ f3_; subst f4_; subst f5_))
   refine norm_ (a' := ?_) ?_ ?_
   rotate_left
   ·simp only [putAll, Act.put, List.setIfInBounds_toArray, List.set_cons_zero, List.set_cons_succ]
    rfl
   refine one_ (i := 15) (N := none) #[true, true, true, true, true, true, true, true, true, true, true, true, true, true, true, true] rfl rfl (one_of HT_.out (by kernel_rfl)) (by decide) (fun K hK => ?_)
   have hs25 : w23.cell? ⟨gb218, 0, none⟩ = some (.int .i64 0) := (blk_cell BK218.out 0).trans rfl
   have hfs25 := zf BK218 0
   have hns25_0 := NB211_218.out
   have hns25_1 := NB212_218.out
   have hms25_0 := NB218_211.out
   have hms25_1 := NB218_212.out
   have hs26 : w23.cell? ⟨gb218, 1, none⟩ = some (.int .i64 0) := (blk_cell BK218.out 1).trans rfl
   have hfs26 := zf BK218 1
   have hns26_0 := NB211_218.out
   have hns26_1 := NB212_218.out
   have hms26_0 := NB218_211.out
   have hms26_1 := NB218_212.out
   have hs27 : w23.cell? ⟨gb218, 2, none⟩ = some (.slice none 0 0) := (blk_cell BK218.out 2).trans rfl
   have hfs27 := zf BK218 2
   have hns27_0 := NB211_218.out
   have hns27_1 := NB212_218.out
   have hms27_0 := NB218_211.out
   have hms27_1 := NB218_212.out
   have hs28 : w23.cell? ⟨gb218, 3, none⟩ = some (.int .i64 0) := (blk_cell BK218.out 3).trans rfl
   have hfs28 := zf BK218 3
   have hns28_0 := NB211_218.out
   have hns28_1 := NB212_218.out
   have hms28_0 := NB218_211.out
   have hms28_1 := NB218_212.out
   have hs29 : w23.cell? ⟨gb218, 4, none⟩ = some (.int .i64 0) := (blk_cell BK218.out 4).trans rfl
   have hfs29 := zf BK218 4
   have hns29_0 := NB211_218.out
   have hns29_1 := NB212_218.out
   have hms29_0 := NB218_211.out
   have hms29_1 := NB218_212.out
   refine skip_ (w1 := ?_) (by rfl) rfl ?_ ?_
   rotate_left
   ·go_simp
    rfl
   refine hK.out _ _ ⟨((cell_far (p := ⟨gb218, _, none⟩) NB211_218.out _).trans (((cell_far (p := ⟨gb218, _, none⟩) NB211_218.out _).trans (((cell_far (p := ⟨gb218, _, none⟩) NB211_218.out _).trans (((cell_far (p := ⟨gb218, _, none⟩) NB211_218.out _).trans (((cell_far (p := ⟨gb218, _, none⟩) NB211_218.out _).trans (hHeld.1)))))))))), ((cell_far (p := ⟨gb218, _, none⟩) NB211_218.out _).trans (((cell_far (p := ⟨gb218, _, none⟩) NB211_218.out _).trans (((cell_far (p := ⟨gb218, _, none⟩) NB211_218.out _).trans (((cell_far (p := ⟨gb218, _, none⟩) NB211_218.out _).trans (((cell_far (p := ⟨gb218, _, none⟩) NB211_218.out _).trans (hHeld.2.1)))))))))), ((cell_far (p := ⟨gb218, _, none⟩) NB211_218.out _).trans (((cell_far (p := ⟨gb218, _, none⟩) NB211_218.out _).trans (((cell_far (p := ⟨gb218, _, none⟩) NB211_218.out _).trans (((cell_far (p := ⟨gb218, _, none⟩) NB211_218.out _).trans (((cell_far (p := ⟨gb218, _, none⟩) NB211_218.out _).trans (hHeld.2.2.1)))))))))), ((cell_far (p := ⟨gb218, _, none⟩) NB211_218.out _).trans (((cell_far (p := ⟨gb218, _, none⟩) NB211_218.out _).trans (((cell_far (p := ⟨gb218, _, none⟩) NB211_218.out _).trans (((cell_far (p := ⟨gb218, _, none⟩) NB211_218.out _).trans (((cell_far (p := ⟨gb218, _, none⟩) NB211_218.out _).trans (hHeld.2.2.2.1)))))))))), ((cell_far (p := ⟨gb218, _, none⟩) NB211_218.out _).trans (((cell_far (p := ⟨gb218, _, none⟩) NB211_218.out _).trans (((cell_far (p := ⟨gb218, _, none⟩) NB211_218.out _).trans (((cell_far (p := ⟨gb218, _, none⟩) NB211_218.out _).trans (((cell_far (p := ⟨gb218, _, none⟩) NB211_218.out _).trans (hHeld.2.2.2.2))))))))))⟩ (fun hHeld => ?_)
   clear hK K
   refine done_ (done_of HT_.out (by kernel_rfl)) ?_
   have hnb30 := NB218_211.out
   have hnc30 := NB211_218.out
   have hnb31 := NB218_212.out
   have hnc31 := NB212_218.out
   obtain ⟨hcz32_0, hcz32_1, hcz32_2, hcz32_3, hcz32_4⟩ := zd5 BK218
   obtain ⟨hfz32_0, hfz32_1, hfz32_2, hfz32_3, hfz32_4⟩ := zn5 BK218
   try go_wp2
   go_loopg [34] kj2 (fun kq v34 w' => ∃ (x34_2 : Int) (x219002_2 : List (S88)) (u219002 : Value), v34 = .int .i64 x34_2 ∧ Aside0 (impl_FlyShift.l0 kq a1 (y215.length : Int) x34_2 a0_0 a0_1 x219002_2 (wrap64 (a0_3 + a1)) (wrap64 (a0_4 + a1)) = some (r1, r2, r3, r4, r5, r6)) ∧ Aside0 (kq ≤ kj2) ∧ Aside0 (Kd.R k88 88 w' w.heap.size (fun _ => True) u219002 x219002_2) ∧ Aside0 (w'.heap[gb211]? = some (.cells #[.int .i64 a0_0, .int .i64 a0_1, (.slice A0_2 l0_2.length c0_2), .int .i64 a0_3, .int .i64 a0_4] 34 (0, 0))) ∧ Aside0 (w'.heap[gb212]? = some (.cells #[.int .i64 0, .int .i64 0, (.slice none 0 0), .int .i64 0, .int .i64 0] 34 (0, 0))) ∧ Aside0 (w'.heap[gb218]? = some (.cells #[.int .i64 a0_0, .int .i64 a0_1, u219002, .int .i64 (wrap64 (a0_3 + a1)), .int .i64 (wrap64 (a0_4 + a1))] 34 (0, 0))) ∧ Aside0 (Below w.heap.size w w'))
   case atStart => exact ⟨(0), (y215), (.slice Ao24 y215.length co24), zi, H', ⟨Nat.le_refl _⟩, ⟨by (with_reducible repeat (first | apply Kd.R_alloc | apply Kd.R_drewN | apply Kd.R_drew)); exact Kd.R_mono (Kd.R_far (p := ⟨gb218, 4, none⟩) (Kd.R_far (p := ⟨gb218, 3, none⟩) (Kd.R_far (p := ⟨gb218, 2, none⟩) (Kd.R_far (p := ⟨gb218, 1, none⟩) (Kd.R_far (p := ⟨gb218, 0, none⟩) (Kd.R_types HO217.out BK218.out (by decide)) (fun _ hk => hk.2) (.int .i64 a0_0)) (fun _ hk => hk.2) (.int .i64 a0_1)) (fun _ hk => hk.2) (.slice Ao24 y215.length co24)) (fun _ hk => hk.2) (.int .i64 (wrap64 (a0_3 + a1)))) (fun _ hk => hk.2) (.int .i64 (wrap64 (a0_4 + a1)))) (fun _ hk => trivial)⟩, ⟨by (with_reducible repeat (first | refine blk_drewN ?_ _ | refine blk_drew ?_ | refine blk_alloc ?_ _)); refine blk_far ?_ NB211_218.out _; (with_reducible repeat (first | refine blk_drewN ?_ _ | refine blk_drew ?_ | refine blk_alloc ?_ _)); refine blk_far ?_ NB211_218.out _; (with_reducible repeat (first | refine blk_drewN ?_ _ | refine blk_drew ?_ | refine blk_alloc ?_ _)); refine blk_far ?_ NB211_218.out _; (with_reducible repeat (first | refine blk_drewN ?_ _ | refine blk_drew ?_ | refine blk_alloc ?_ _)); refine blk_far ?_ NB211_218.out _; (with_reducible repeat (first | refine blk_drewN ?_ _ | refine blk_drew ?_ | refine blk_alloc ?_ _)); refine blk_far ?_ NB211_218.out _; (with_reducible repeat (first | refine blk_drewN ?_ _ | refine blk_drew ?_ | refine blk_alloc ?_ _)); exact BK211.out⟩, ⟨by (with_reducible repeat (first | refine blk_drewN ?_ _ | refine blk_drew ?_ | refine blk_alloc ?_ _)); refine blk_far ?_ NB212_218.out _; (with_reducible repeat (first | refine blk_drewN ?_ _ | refine blk_drew ?_ | refine blk_alloc ?_ _)); refine blk_far ?_ NB212_218.out _; (with_reducible repeat (first | refine blk_drewN ?_ _ | refine blk_drew ?_ | refine blk_alloc ?_ _)); refine blk_far ?_ NB212_218.out _; (with_reducible repeat (first | refine blk_drewN ?_ _ | refine blk_drew ?_ | refine blk_alloc ?_ _)); refine blk_far ?_ NB212_218.out _; (with_reducible repeat (first | refine blk_drewN ?_ _ | refine blk_drew ?_ | refine blk_alloc ?_ _)); refine blk_far ?_ NB212_218.out _; (with_reducible repeat (first | refine blk_drewN ?_ _ | refine blk_drew ?_ | refine blk_alloc ?_ _)); exact BK212.out⟩, ⟨by (with_reducible repeat (first | refine blk_drewN ?_ _ | refine blk_drew ?_ | refine blk_alloc ?_ _)); refine blk_put (cs := #[.int .i64 a0_0, .int .i64 a0_1, .slice Ao24 y215.length co24, .int .i64 (wrap64 (a0_3 + a1)), .int .i64 0]) ?_ 4 _ rfl; (with_reducible repeat (first | refine blk_drewN ?_ _ | refine blk_drew ?_ | refine blk_alloc ?_ _)); refine blk_put (cs := #[.int .i64 a0_0, .int .i64 a0_1, .slice Ao24 y215.length co24, .int .i64 0, .int .i64 0]) ?_ 3 _ rfl; (with_reducible repeat (first | refine blk_drewN ?_ _ | refine blk_drew ?_ | refine blk_alloc ?_ _)); refine blk_put (cs := #[.int .i64 a0_0, .int .i64 a0_1, .slice none 0 0, .int .i64 0, .int .i64 0]) ?_ 2 _ rfl; (with_reducible repeat (first | refine blk_drewN ?_ _ | refine blk_drew ?_ | refine blk_alloc ?_ _)); refine blk_put (cs := #[.int .i64 a0_0, .int .i64 0, .slice none 0 0, .int .i64 0, .int .i64 0]) ?_ 1 _ rfl; (with_reducible repeat (first | refine blk_drewN ?_ _ | refine blk_drew ?_ | refine blk_alloc ?_ _)); refine blk_put (cs := #[.int .i64 0, .int .i64 0, .slice none 0 0, .int .i64 0, .int .i64 0]) ?_ 0 _ rfl; (with_reducible repeat (first | refine blk_drewN ?_ _ | refine blk_drew ?_ | refine blk_alloc ?_ _)); exact BK218.out⟩, ⟨zs3 HB GE211 GE212 GE218⟩⟩
   case round =>
    clear H'
    try clear c1
    try clear p2
    try clear c3
    try clear p6
    try clear c7
    try clear c9
    try clear c12
    try clear c15
    try clear c16
    try clear c18
    try clear c30
    try clear c31
    try clear hcz10_0
    try clear hcz10_1
    try clear hcz10_2
    try clear hcz10_3
    try clear hcz10_4
    try clear hcz13_0
    try clear hcz13_1
    try clear hcz13_2
    try clear hcz13_3
    try clear hcz13_4
    try clear hcz17_0
    try clear hcz17_1
    try clear hcz17_2
    try clear hcz17_3
    try clear hcz17_4
    try clear hcz32_0
    try clear hcz32_1
    try clear hcz32_2
    try clear hcz32_3
    try clear hcz32_4
    try clear hfz10_0
    try clear hfz10_1
    try clear hfz10_2
    try clear hfz10_3
    try clear hfz10_4
    try clear hfz13_0
    try clear hfz13_1
    try clear hfz13_2
    try clear hfz13_3
    try clear hfz13_4
    try clear hfz17_0
    try clear hfz17_1
    try clear hfz17_2
    try clear hfz17_3
    try clear hfz17_4
    try clear hfz32_0
    try clear hfz32_1
    try clear hfz32_2
    try clear hfz32_3
    try clear hfz32_4
    try clear p2
    obtain ⟨x34_2, x219002_2, u219002, rfl, HA, HK2, HO_219002, BK211, BK212, BK218, HB⟩ := hrel
    cases gk with
    | zero => exact absurd HA.out (by simp [impl_FlyShift.l0])
    | succ k2 =>
     have H := HA.out
     clear HA
     simp only [impl_FlyShift.l0] at H
     by_cases c33 : x34_2 < (y215.length : Int)
     rotate_left
     ·rw [if_neg c33] at H
      have c33b0 : decide (x34_2 < (y215.length : Int)) = false := decide_eq_false c33
      clear c33
      replace H := Option.bind_eq_some_iff.mp H
      obtain ⟨t223, A470, H⟩ := H
      replace H : (if t223 = true then (some (a0_0, a0_1, x219002_2, (wrap64 (a0_3 + a1)), (wrap64 (a0_4 + a1)), true)) else (some (0, 0, ([] : List (S88)), 0, 0, false))) = some (r1, r2, r3, r4, r5, r6) := H
      have A47 := Aside0.mk A470
      clear A470
      by_cases c48 : t223 = true
      rotate_left
      ·replace c48 := Bool.eq_false_iff.mpr c48
       subst c48
       have H1 : (some (0, 0, ([] : List (S88)), 0, 0, false)) = some (r1, r2, r3, r4, r5, r6) := by rw [if_neg (show ¬ (false = true) by decide)] at H; exact H
       clear H
       have H := H1
       clear H1
       simp only [Option.some.injEq, Prod.mk.injEq] at H
       obtain ⟨rfl, rfl, rfl, rfl, rfl, rfl⟩ := H
       have hnb57 := NB218_211.out
       have hnc57 := NB211_218.out
       have hnb58 := NB218_212.out
       have hnc58 := NB212_218.out
       obtain ⟨hcz59_0, hcz59_1, hcz59_2, hcz59_3, hcz59_4⟩ := zd5 BK218
       obtain ⟨hfz59_0, hfz59_1, hfz59_2, hfz59_3, hfz59_4⟩ := zn5 BK218
       obtain ⟨Ao60, co60, eo60⟩ := Kd.R_slice HO_219002.out
       subst eo60
       go_wp2_with (first | ((with_reducible refine gate_callee (f := 33) rfl ?_); refine goesL_ (some 59) rfl rfl Try.func33 (by kernel_rfl) rfl #[.agg #[.int .i64 a0_0, .int .i64 a0_1, .slice Ao60 x219002_2.length co60, .int .i64 (wrap64 (a0_3 + a1)), .int .i64 (wrap64 (a0_4 + a1))]] rfl zl ?_; (with_reducible refine (impl_FlyPathOk.calls k2 a0_0 a0_1 _ _ x219002_2 (wrap64 (a0_3 + a1)) (wrap64 (a0_4 + a1)) false _ ?side1 ?side2 A47.out).mono ?_); (case side1 => repeat (first | exact (Kd.R_reads' HO_219002.out).2.2 | (with_reducible refine Kd.C_alloc ?_ _) | (with_reducible refine Kd.C_drewN ?_ _) | (with_reducible refine Kd.C_drew ?_))); (case side2 => exact (Kd.R_reads' HO_219002.out).2.1); rintro e w61 ⟨rfl, hb⟩; refine ⟨_, rfl, ?_⟩; have n0_ := Aside0.mk (Kd.R_below (zr HO_219002) hb); have n1_ := zb BK211 hb; have n2_ := zb BK212 hb; have n3_ := zb BK218 hb; have n4_ := Aside0.mk (below_step (zs3 HB GE211 GE212 GE218) hb); clear HO_219002 BK211 BK212 BK218 HB; revert n0_ n1_ n2_ n3_ n4_; intro HO_219002 BK211 BK212 BK218 HB; (try clear hb); (try clear hb2); (try clear hk); (try clear hi); have hnb62 := NB212_211.out; have hnc62 := NB211_212.out; obtain ⟨hcz63_0, hcz63_1, hcz63_2, hcz63_3, hcz63_4⟩ := zd5 BK212; obtain ⟨hfz63_0, hfz63_1, hfz63_2, hfz63_3, hfz63_4⟩ := zn5 BK212))
       refine bodyPost_ret (results_ct rfl _ _ gb212 34 #[.int .i64 0, .int .i64 0, .slice none 0 0, .int .i64 0, .int .i64 0] (0, 0) _ rfl (by (with_reducible repeat (first | refine blk_drewN ?_ _ | refine blk_drew ?_ | refine blk_alloc ?_ _)); refine blk_put (cs := #[.int .i64 0, .int .i64 0, .slice none 0 0, .int .i64 0, .int .i64 0]) ?_ 4 _ rfl; (with_reducible repeat (first | refine blk_drewN ?_ _ | refine blk_drew ?_ | refine blk_alloc ?_ _)); refine blk_put (cs := #[.int .i64 0, .int .i64 0, .slice none 0 0, .int .i64 0, .int .i64 0]) ?_ 3 _ rfl; (with_reducible repeat (first | refine blk_drewN ?_ _ | refine blk_drew ?_ | refine blk_alloc ?_ _)); refine blk_put (cs := #[.int .i64 0, .int .i64 0, .slice none 0 0, .int .i64 0, .int .i64 0]) ?_ 2 _ rfl; (with_reducible repeat (first | refine blk_drewN ?_ _ | refine blk_drew ?_ | refine blk_alloc ?_ _)); refine blk_put (cs := #[.int .i64 0, .int .i64 0, .slice none 0 0, .int .i64 0, .int .i64 0]) ?_ 1 _ rfl; (with_reducible repeat (first | refine blk_drewN ?_ _ | refine blk_drew ?_ | refine blk_alloc ?_ _)); refine blk_put (cs := #[.int .i64 0, .int .i64 0, .slice none 0 0, .int .i64 0, .int .i64 0]) ?_ 0 _ rfl; (with_reducible repeat (first | refine blk_drewN ?_ _ | refine blk_drew ?_ | refine blk_alloc ?_ _)); exact BK212.out) Try.underlying34 rfl (by kernel_rfl)) rfl ?_
       exact ⟨_, ze, by first | exact Kd.R_nil _ _ _ _ _ | exact Kd.N_nil _ _ _ _ _ | exact Kd.V_nil _ _ _ _ _ | exact Kd.Q_nil _ _ _ _ _ | exact Kd.S_nil _ _ _ _ _, zs3 HB GE211 GE212 GE218⟩
      subst c48
      have H1 : (some (a0_0, a0_1, x219002_2, (wrap64 (a0_3 + a1)), (wrap64 (a0_4 + a1)), true)) = some (r1, r2, r3, r4, r5, r6) := by rw [if_pos rfl] at H; exact H
      clear H
      have H := H1
      clear H1
      simp only [Option.some.injEq, Prod.mk.injEq] at H
      obtain ⟨rfl, rfl, rfl, rfl, rfl, rfl⟩ := H
      have hnb49 := NB218_211.out
      have hnc49 := NB211_218.out
      have hnb50 := NB218_212.out
      have hnc50 := NB212_218.out
      obtain ⟨hcz51_0, hcz51_1, hcz51_2, hcz51_3, hcz51_4⟩ := zd5 BK218
      obtain ⟨hfz51_0, hfz51_1, hfz51_2, hfz51_3, hfz51_4⟩ := zn5 BK218
      obtain ⟨Ao52, co52, eo52⟩ := Kd.R_slice HO_219002.out
      subst eo52
      go_wp2_with (first | ((with_reducible refine gate_callee (f := 33) rfl ?_); refine goesL_ (some 59) rfl rfl Try.func33 (by kernel_rfl) rfl #[.agg #[.int .i64 a0_0, .int .i64 a0_1, .slice Ao52 x219002_2.length co52, .int .i64 (wrap64 (a0_3 + a1)), .int .i64 (wrap64 (a0_4 + a1))]] rfl zl ?_; (with_reducible refine (impl_FlyPathOk.calls k2 a0_0 a0_1 _ _ x219002_2 (wrap64 (a0_3 + a1)) (wrap64 (a0_4 + a1)) true _ ?side1 ?side2 A47.out).mono ?_); (case side1 => repeat (first | exact (Kd.R_reads' HO_219002.out).2.2 | (with_reducible refine Kd.C_alloc ?_ _) | (with_reducible refine Kd.C_drewN ?_ _) | (with_reducible refine Kd.C_drew ?_))); (case side2 => exact (Kd.R_reads' HO_219002.out).2.1); rintro e w53 ⟨rfl, hb⟩; refine ⟨_, rfl, ?_⟩; have n0_ := Aside0.mk (Kd.R_below (zr HO_219002) hb); have n1_ := zb BK211 hb; have n2_ := zb BK212 hb; have n3_ := zb BK218 hb; have n4_ := Aside0.mk (below_step (zs3 HB GE211 GE212 GE218) hb); clear HO_219002 BK211 BK212 BK218 HB; revert n0_ n1_ n2_ n3_ n4_; intro HO_219002 BK211 BK212 BK218 HB; (try clear hb); (try clear hb2); (try clear hk); (try clear hi); obtain ⟨hcz54_0, hcz54_1, hcz54_2, hcz54_3, hcz54_4⟩ := zd5 BK218; obtain ⟨hfz54_0, hfz54_1, hfz54_2, hfz54_3, hfz54_4⟩ := zn5 BK218; have hnb55 := NB212_211.out; have hnc55 := NB211_212.out; obtain ⟨hcz56_0, hcz56_1, hcz56_2, hcz56_3, hcz56_4⟩ := zd5 BK212; obtain ⟨hfz56_0, hfz56_1, hfz56_2, hfz56_3, hfz56_4⟩ := zn5 BK212))
      refine bodyPost_ret (results_ct rfl _ _ gb212 34 #[.int .i64 a0_0, .int .i64 a0_1, .slice Ao52 x219002_2.length co52, .int .i64 (wrap64 (a0_3 + a1)), .int .i64 (wrap64 (a0_4 + a1))] (0, 0) _ rfl (by (with_reducible repeat (first | refine blk_drewN ?_ _ | refine blk_drew ?_ | refine blk_alloc ?_ _)); refine blk_put (cs := #[.int .i64 a0_0, .int .i64 a0_1, .slice Ao52 x219002_2.length co52, .int .i64 (wrap64 (a0_3 + a1)), .int .i64 0]) ?_ 4 _ rfl; (with_reducible repeat (first | refine blk_drewN ?_ _ | refine blk_drew ?_ | refine blk_alloc ?_ _)); refine blk_put (cs := #[.int .i64 a0_0, .int .i64 a0_1, .slice Ao52 x219002_2.length co52, .int .i64 0, .int .i64 0]) ?_ 3 _ rfl; (with_reducible repeat (first | refine blk_drewN ?_ _ | refine blk_drew ?_ | refine blk_alloc ?_ _)); refine blk_put (cs := #[.int .i64 a0_0, .int .i64 a0_1, .slice none 0 0, .int .i64 0, .int .i64 0]) ?_ 2 _ rfl; (with_reducible repeat (first | refine blk_drewN ?_ _ | refine blk_drew ?_ | refine blk_alloc ?_ _)); refine blk_put (cs := #[.int .i64 a0_0, .int .i64 0, .slice none 0 0, .int .i64 0, .int .i64 0]) ?_ 1 _ rfl; (with_reducible repeat (first | refine blk_drewN ?_ _ | refine blk_drew ?_ | refine blk_alloc ?_ _)); refine blk_put (cs := #[.int .i64 0, .int .i64 0, .slice none 0 0, .int .i64 0, .int .i64 0]) ?_ 0 _ rfl; (with_reducible repeat (first | refine blk_drewN ?_ _ | refine blk_drew ?_ | refine blk_alloc ?_ _)); exact BK212.out) Try.underlying34 rfl (by kernel_rfl)) rfl ?_
      exact ⟨_, ze, by (with_reducible repeat (first | apply Kd.R_alloc | apply Kd.R_drewN | apply Kd.R_drew)); exact Kd.R_mono (Kd.R_far (p := ⟨gb212, 4, none⟩) (Kd.R_far (p := ⟨gb212, 3, none⟩) (Kd.R_far (p := ⟨gb212, 2, none⟩) (Kd.R_far (p := ⟨gb212, 1, none⟩) (Kd.R_far (p := ⟨gb212, 0, none⟩) (Kd.R_types HO_219002.out BK212.out (by decide)) (fun _ hk => hk.2) (.int .i64 a0_0)) (fun _ hk => hk.2) (.int .i64 a0_1)) (fun _ hk => hk.2) (.slice Ao52 x219002_2.length co52)) (fun _ hk => hk.2) (.int .i64 (wrap64 (a0_3 + a1)))) (fun _ hk => hk.2) (.int .i64 (wrap64 (a0_4 + a1)))) (fun _ hk => trivial), zs3 HB GE211 GE212 GE218⟩
     rw [if_pos c33] at H
     have c33b0 : decide (x34_2 < (y215.length : Int)) = true := decide_eq_true c33
     clear c33
     by_cases c34 : 0 ≤ x34_2
     rotate_left
     ·rw [if_neg c34] at H
      exact absurd H (by simp)
     rw [if_pos c34] at H
     have c34b0 : decide (0 ≤ x34_2) = true := decide_eq_true c34
     clear c34
     by_cases c35 : x34_2 < (x219002_2.length : Int)
     rotate_left
     ·rw [if_neg c35] at H
      exact absurd H (by simp)
     rw [if_pos c35] at H
     have c35b0 : decide (x34_2 < (x219002_2.length : Int)) = true := decide_eq_true c35
     clear c35
     obtain ⟨y220, hy220⟩ : ∃ y_ : List (S88), y_ = (x219002_2.set (x34_2 : Int).toNat (⟨(rd_T88 x219002_2 x34_2).f0, (rd_T88 x219002_2 x34_2).f1, (rd_T88 x219002_2 x34_2).f2, (rd_T88 x219002_2 x34_2).f3, wrap64 (((rd_T88 x219002_2 x34_2).f4) + a1), (rd_T88 x219002_2 x34_2).f5, (rd_T88 x219002_2 x34_2).f6⟩ : S88)) := ⟨_, rfl⟩
     replace H : (impl_FlyShift.l0 k2 a1 (y215.length : Int) (wrap64 (x34_2 + 1)) a0_0 a0_1 (y220.set (x34_2 : Int).toNat (⟨(rd_T88 y220 x34_2).f0, (rd_T88 y220 x34_2).f1, (rd_T88 y220 x34_2).f2, (rd_T88 y220 x34_2).f3, (rd_T88 y220 x34_2).f4, wrap64 (((rd_T88 y220 x34_2).f5) + a1), (rd_T88 y220 x34_2).f6⟩ : S88)) (wrap64 (a0_3 + a1)) (wrap64 (a0_4 + a1))) = some (r1, r2, r3, r4, r5, r6) := by first | (rw [hy220]; with_reducible exact H) | (have H2_ := (Option.bind_some _ _).symm.trans H; rw [hy220]; with_reducible exact H2_) | (have H2_ := (Option.bind_some _ _).symm.trans H; with_reducible exact H2_) | with_reducible exact H | (rw [hy220]; exact H) | exact H
     have Ny220 := Aside0.mk hy220
     clear hy220
     obtain ⟨y222, hy222⟩ : ∃ y_ : List (S88), y_ = (y220.set (x34_2 : Int).toNat (⟨(rd_T88 y220 x34_2).f0, (rd_T88 y220 x34_2).f1, (rd_T88 y220 x34_2).f2, (rd_T88 y220 x34_2).f3, (rd_T88 y220 x34_2).f4, wrap64 (((rd_T88 y220 x34_2).f5) + a1), (rd_T88 y220 x34_2).f6⟩ : S88)) := ⟨_, rfl⟩
     replace H : (impl_FlyShift.l0 k2 a1 (y215.length : Int) (wrap64 (x34_2 + 1)) a0_0 a0_1 y222 (wrap64 (a0_3 + a1)) (wrap64 (a0_4 + a1))) = some (r1, r2, r3, r4, r5, r6) := by first | (rw [hy222]; with_reducible exact H) | (have H2_ := (Option.bind_some _ _).symm.trans H; rw [hy222]; with_reducible exact H2_) | (have H2_ := (Option.bind_some _ _).symm.trans H; with_reducible exact H2_) | with_reducible exact H | (rw [hy222]; exact H) | exact H
     have Ny222 := Aside0.mk hy222
     clear hy222
     have H' := Aside0.mk H
     clear H
     have hnb38 := NB218_211.out
     have hnc38 := NB211_218.out
     have hnb39 := NB218_212.out
     have hnc39 := NB212_218.out
     obtain ⟨hcz40_0, hcz40_1, hcz40_2, hcz40_3, hcz40_4⟩ := zd5 BK218
     obtain ⟨hfz40_0, hfz40_1, hfz40_2, hfz40_3, hfz40_4⟩ := zn5 BK218
     obtain ⟨Ao41, co41, eo41⟩ := Kd.R_slice HO_219002.out
     subst eo41
     have p219 : 0 ≤ (x34_2 : Int) := za
     have q219 : x34_2 < (x219002_2.length : Int) := za
     obtain ⟨ad219, e219, hx219_0, hx219_1, hx219_2, hx219_3, hx219_4, hx219_5, hx219_6⟩ := at_T88 (Kd.R_reads' HO_219002.out).2.2 x34_2 p219 q219
     cases e219
     replace p219 := eq_true p219
     replace q219 := eq_true q219
     have p36 : 0 ≤ (x34_2 : Int) := za
     have q36 : (x34_2 : Int) < ((x219002_2.length : Int) : Int) := za
     obtain ⟨go36, co36, eo36, gb36, gl36, cl36, HG36⟩ := Kd.R_form HO_219002.out (by omega)
     (first | cases eo36 | (injection eo36 with ea_ en_ ec_; (first | subst ea_ | (injection ea_ with ea_; subst ea_)); subst ec_; clear en_))
     have GB36 := Aside0.mk gb36
     have GG36 := Aside0.mk HG36
     clear gb36 gl36 HG36
     (first | simp only [add_plain] at hx219_0 | skip)
     (first | simp only [add_plain] at hx219_1 | skip)
     (first | simp only [add_plain] at hx219_2 | skip)
     (first | simp only [add_plain] at hx219_3 | skip)
     (first | simp only [add_plain] at hx219_4 | skip)
     (first | simp only [add_plain] at hx219_5 | skip)
     (first | simp only [add_plain] at hx219_6 | skip)
     obtain ⟨ce36, hcl36, hM36, hcc36, hfr36⟩ := Kd.R_elem HO_219002.out z88 (x34_2 : Int) p36 q36
     obtain rfl := k88_openM hM36
     have hx36_0 : wr.cell? ⟨go36, (x34_2 : Int).toNat * 7, none⟩ = some (.int .i64 ((rd_T88 x219002_2 x34_2).f0)) := hcc36 0 _ rfl
     have hx36_1 : wr.cell? ⟨go36, (x34_2 : Int).toNat * 7 + 1, none⟩ = some (.int .i64 ((rd_T88 x219002_2 x34_2).f1)) := hcc36 1 _ rfl
     have hx36_2 : wr.cell? ⟨go36, (x34_2 : Int).toNat * 7 + 2, none⟩ = some (.int .i64 ((rd_T88 x219002_2 x34_2).f2)) := hcc36 2 _ rfl
     have hx36_3 : wr.cell? ⟨go36, (x34_2 : Int).toNat * 7 + 3, none⟩ = some (.int .i64 ((rd_T88 x219002_2 x34_2).f3)) := hcc36 3 _ rfl
     have hx36_4 : wr.cell? ⟨go36, (x34_2 : Int).toNat * 7 + 4, none⟩ = some (.int .i64 ((rd_T88 x219002_2 x34_2).f4)) := hcc36 4 _ rfl
     have hx36_5 : wr.cell? ⟨go36, (x34_2 : Int).toNat * 7 + 5, none⟩ = some (.int .i64 ((rd_T88 x219002_2 x34_2).f5)) := hcc36 5 _ rfl
     have hx36_6 : wr.cell? ⟨go36, (x34_2 : Int).toNat * 7 + 6, none⟩ = some (.bool ((rd_T88 x219002_2 x34_2).f6)) := hcc36 6 _ rfl
     have hf36_0 : wr.frozen? ⟨go36, (x34_2 : Int).toNat * 7, none⟩ = false := hfr36 0
     have hf36_1 : wr.frozen? ⟨go36, (x34_2 : Int).toNat * 7 + 1, none⟩ = false := hfr36 1
     have hf36_2 : wr.frozen? ⟨go36, (x34_2 : Int).toNat * 7 + 2, none⟩ = false := hfr36 2
     have hf36_3 : wr.frozen? ⟨go36, (x34_2 : Int).toNat * 7 + 3, none⟩ = false := hfr36 3
     have hf36_4 : wr.frozen? ⟨go36, (x34_2 : Int).toNat * 7 + 4, none⟩ = false := hfr36 4
     have hf36_5 : wr.frozen? ⟨go36, (x34_2 : Int).toNat * 7 + 5, none⟩ = false := hfr36 5
     have hf36_6 : wr.frozen? ⟨go36, (x34_2 : Int).toNat * 7 + 6, none⟩ = false := hfr36 6
     clear hcl36 hcc36 hfr36 hM36
     replace p36 := eq_true p36
     replace q36 := eq_true q36
     have HX42 := Aside0.mk (show Kd.R k88 88 wr w.heap.size (fun _ => True) (.slice (some ⟨go36, 0, none⟩) x219002_2.length co41) x219002_2 from (zr HO_219002))
     obtain ⟨ce42, hcl42, hM42, hcc42, hfr42⟩ := Kd.R_elem HX42.out z88 (x34_2 : Int) (za) (by have h_ : (x34_2 : Int) < ((x219002_2.length : Int) : Int) := za; first | exact h_ | (have e_ := (Kd.R_reads' HO_219002.out).1; omega) | simpa using h_)
     obtain rfl := k88_openM hM42
     have HP42 := Kd.R_seg HX42.out (x34_2 : Int) (za) (by have h_ : (x34_2 : Int) < ((x219002_2.length : Int) : Int) := za; first | exact h_ | (have e_ := (Kd.R_reads' HO_219002.out).1; omega) | simpa using h_) (seg := [.int .i64 (wrap64 (((rd_T88 x219002_2 x34_2).f4) + a1))]) (j := 4) hcl42 hcc42 (show 5 ≤ 7 from by decide) (x' := (⟨(rd_T88 x219002_2 x34_2).f0, (rd_T88 x219002_2 x34_2).f1, (rd_T88 x219002_2 x34_2).f2, (rd_T88 x219002_2 x34_2).f3, wrap64 (((rd_T88 x219002_2 x34_2).f4) + a1), (rd_T88 x219002_2 x34_2).f5, (rd_T88 x219002_2 x34_2).f6⟩ : S88)) (k88_mkM _ _ _ (⟨(rd_T88 x219002_2 x34_2).f0, (rd_T88 x219002_2 x34_2).f1, (rd_T88 x219002_2 x34_2).f2, (rd_T88 x219002_2 x34_2).f3, wrap64 (((rd_T88 x219002_2 x34_2).f4) + a1), (rd_T88 x219002_2 x34_2).f5, (rd_T88 x219002_2 x34_2).f6⟩ : S88) ) (fun _ hk => hk)
     have hx42_4 := hcc42 4 _ rfl
     (try simp only [show (k88).sz = 7 from rfl, Nat.mul_one, Nat.add_zero] at hx42_4)
     have hf42_4 := hfr42 4
     (try simp only [show (k88).sz = 7 from rfl, Nat.mul_one, Nat.add_zero] at hf42_4)
     clear hcl42 hcc42 hfr42 hM42
     go_wp2_with (first | ((with_reducible refine gate_store (t := 3) (p := 46) rfl ?_); refine store_event (t := 3) (p := 46) (v := ?vo_w43) (w1 := (wr.setCell ⟨go36, (x34_2 : Int).toNat * 7 + 4, none⟩ (.int .i64 (wrap64 (((rd_T88 x219002_2 x34_2).f4) + a1))))) ?hg ?ho ?hn ?hr ?_; (case ho => rfl); (case hg => rfl); (case hn => rfl); (case hr => first | (go_simp; done) | (go_simp; rfl)); intro w43 hw; have hg : wr.grownBy w43 (some go36) := (by rw [hw]; exact HP42.2); have hp_ : Kd.R k88 88 w43 w.heap.size (fun _ => True) (.slice (some ⟨go36, 0, none⟩) x219002_2.length co41) y220 := (by rw [hw, Ny220.out]; exact HP42.1); clear HP42; have n0_ := Aside0.mk (hp_); have n1_ := Aside0.mk (blk_grown (g := gb211) (o := .cells #[.int .i64 a0_0, .int .i64 a0_1, .slice A0_2 l0_2.length c0_2, .int .i64 a0_3, .int .i64 a0_4] 34 (0, 0)) (zh BK211) hg (Kd.R_ne HO_219002.out BK211.out (by decide))); have n2_ := Aside0.mk (blk_grown (g := gb212) (o := .cells #[.int .i64 0, .int .i64 0, .slice none 0 0, .int .i64 0, .int .i64 0] 34 (0, 0)) (zh BK212) hg (Kd.R_ne HO_219002.out BK212.out (by decide))); have n3_ := Aside0.mk (blk_grown (g := gb218) (o := .cells #[.int .i64 a0_0, .int .i64 a0_1, .slice (some ⟨go36, 0, none⟩) x219002_2.length co41, .int .i64 (wrap64 (a0_3 + a1)), .int .i64 (wrap64 (a0_4 + a1))] 34 (0, 0)) (zh BK218) hg (Kd.R_ne HO_219002.out BK218.out (by decide))); have n4_ := Aside0.mk ((by rw [hw]; exact below_set (HB.out) GB36.out : Below w.heap.size w w43)); clear HO_219002 BK211 BK212 BK218 HB; revert n0_ n1_ n2_ n3_ n4_; intro HO_219002 BK211 BK212 BK218 HB; clear hg hw hp_; obtain ⟨hcz44_0, hcz44_1, hcz44_2, hcz44_3, hcz44_4⟩ := zd5 BK218; obtain ⟨hfz44_0, hfz44_1, hfz44_2, hfz44_3, hfz44_4⟩ := zn5 BK218; have p221 : 0 ≤ (x34_2 : Int) := za; have q221 : x34_2 < (y220.length : Int) := (by have h_ : (x34_2 : Int) < ((x219002_2.length : Int) : Int) := za; first | (have e_ := (Kd.R_reads' HO_219002.out).1; omega) | simpa only [Ny220.out, List.length_set] using h_); have ql221 : ((x34_2 : Int) < ((x219002_2.length : Int) : Int)) = True := eq_true (za); obtain ⟨ad221, e221, hx221_0, hx221_1, hx221_2, hx221_3, hx221_4, hx221_5, hx221_6⟩ := at_T88 (Kd.R_reads' HO_219002.out).2.2 x34_2 p221 q221; obtain rfl : (⟨go36, 0, none⟩ : Addr) = ad221 := (by injection e221); (first | simp only [add_plain] at hx221_0 | simp only [add_at] at hx221_0 | simp only [Addr.add, Nat.zero_add] at hx221_0 | skip); (first | simp only [add_plain] at hx221_1 | simp only [add_at] at hx221_1 | simp only [Addr.add, Nat.zero_add] at hx221_1 | skip); (first | simp only [add_plain] at hx221_2 | simp only [add_at] at hx221_2 | simp only [Addr.add, Nat.zero_add] at hx221_2 | skip); (first | simp only [add_plain] at hx221_3 | simp only [add_at] at hx221_3 | simp only [Addr.add, Nat.zero_add] at hx221_3 | skip); (first | simp only [add_plain] at hx221_4 | simp only [add_at] at hx221_4 | simp only [Addr.add, Nat.zero_add] at hx221_4 | skip); (first | simp only [add_plain] at hx221_5 | simp only [add_at] at hx221_5 | simp only [Addr.add, Nat.zero_add] at hx221_5 | skip); (first | simp only [add_plain] at hx221_6 | simp only [add_at] at hx221_6 | simp only [Addr.add, Nat.zero_add] at hx221_6 | skip); replace p221 := eq_true p221; replace q221 := eq_true q221; have p37 : 0 ≤ (x34_2 : Int) := za; have q37 : (x34_2 : Int) < ((x219002_2.length : Int) : Int) := za; obtain ⟨ce37, hcl37, hM37, hcc37, hfr37⟩ := Kd.R_elem HO_219002.out z88 (x34_2 : Int) p37 q37; obtain rfl := k88_openM hM37; have hx37_0 : w43.cell? ⟨go36, (x34_2 : Int).toNat * 7, none⟩ = some (.int .i64 ((rd_T88 y220 x34_2).f0)) := hcc37 0 _ rfl; have hx37_1 : w43.cell? ⟨go36, (x34_2 : Int).toNat * 7 + 1, none⟩ = some (.int .i64 ((rd_T88 y220 x34_2).f1)) := hcc37 1 _ rfl; have hx37_2 : w43.cell? ⟨go36, (x34_2 : Int).toNat * 7 + 2, none⟩ = some (.int .i64 ((rd_T88 y220 x34_2).f2)) := hcc37 2 _ rfl; have hx37_3 : w43.cell? ⟨go36, (x34_2 : Int).toNat * 7 + 3, none⟩ = some (.int .i64 ((rd_T88 y220 x34_2).f3)) := hcc37 3 _ rfl; have hx37_4 : w43.cell? ⟨go36, (x34_2 : Int).toNat * 7 + 4, none⟩ = some (.int .i64 ((rd_T88 y220 x34_2).f4)) := hcc37 4 _ rfl; have hx37_5 : w43.cell? ⟨go36, (x34_2 : Int).toNat * 7 + 5, none⟩ = some (.int .i64 ((rd_T88 y220 x34_2).f5)) := hcc37 5 _ rfl; have hx37_6 : w43.cell? ⟨go36, (x34_2 : Int).toNat * 7 + 6, none⟩ = some (.bool ((rd_T88 y220 x34_2).f6)) := hcc37 6 _ rfl; have hf37_0 : w43.frozen? ⟨go36, (x34_2 : Int).toNat * 7, none⟩ = false := hfr37 0; have hf37_1 : w43.frozen? ⟨go36, (x34_2 : Int).toNat * 7 + 1, none⟩ = false := hfr37 1; have hf37_2 : w43.frozen? ⟨go36, (x34_2 : Int).toNat * 7 + 2, none⟩ = false := hfr37 2; have hf37_3 : w43.frozen? ⟨go36, (x34_2 : Int).toNat * 7 + 3, none⟩ = false := hfr37 3; have hf37_4 : w43.frozen? ⟨go36, (x34_2 : Int).toNat * 7 + 4, none⟩ = false := hfr37 4; have hf37_5 : w43.frozen? ⟨go36, (x34_2 : Int).toNat * 7 + 5, none⟩ = false := hfr37 5; have hf37_6 : w43.frozen? ⟨go36, (x34_2 : Int).toNat * 7 + 6, none⟩ = false := hfr37 6; clear hcl37 hcc37 hfr37 hM37; replace p37 := eq_true p37; replace q37 := eq_true q37; have HX45 := Aside0.mk (show Kd.R k88 88 w43 w.heap.size (fun _ => True) (.slice (some ⟨go36, 0, none⟩) x219002_2.length co41) y220 from (zr HO_219002)); obtain ⟨ce45, hcl45, hM45, hcc45, hfr45⟩ := Kd.R_elem HX45.out z88 (x34_2 : Int) (za) (by have h_ : (x34_2 : Int) < ((x219002_2.length : Int) : Int) := za; first | exact h_ | (have e_ := (Kd.R_reads' HO_219002.out).1; omega) | simpa using h_); obtain rfl := k88_openM hM45; have HP45 := Kd.R_seg HX45.out (x34_2 : Int) (za) (by have h_ : (x34_2 : Int) < ((x219002_2.length : Int) : Int) := za; first | exact h_ | (have e_ := (Kd.R_reads' HO_219002.out).1; omega) | simpa using h_) (seg := [.int .i64 (wrap64 (((rd_T88 y220 x34_2).f5) + a1))]) (j := 5) hcl45 hcc45 (show 6 ≤ 7 from by decide) (x' := (⟨(rd_T88 y220 x34_2).f0, (rd_T88 y220 x34_2).f1, (rd_T88 y220 x34_2).f2, (rd_T88 y220 x34_2).f3, (rd_T88 y220 x34_2).f4, wrap64 (((rd_T88 y220 x34_2).f5) + a1), (rd_T88 y220 x34_2).f6⟩ : S88)) (k88_mkM _ _ _ (⟨(rd_T88 y220 x34_2).f0, (rd_T88 y220 x34_2).f1, (rd_T88 y220 x34_2).f2, (rd_T88 y220 x34_2).f3, (rd_T88 y220 x34_2).f4, wrap64 (((rd_T88 y220 x34_2).f5) + a1), (rd_T88 y220 x34_2).f6⟩ : S88) ) (fun _ hk => hk); have hx45_5 := hcc45 5 _ rfl; (try simp only [show (k88).sz = 7 from rfl, Nat.mul_one, Nat.add_zero] at hx45_5); have hf45_5 := hfr45 5; (try simp only [show (k88).sz = 7 from rfl, Nat.mul_one, Nat.add_zero] at hf45_5); clear hcl45 hcc45 hfr45 hM45) | ((with_reducible refine gate_store (t := 3) (p := 56) rfl ?_); refine store_event (t := 3) (p := 56) (v := ?vo_w46) (w1 := (w43.setCell ⟨go36, (x34_2 : Int).toNat * 7 + 5, none⟩ (.int .i64 (wrap64 (((rd_T88 y220 x34_2).f5) + a1))))) ?hg ?ho ?hn ?hr ?_; (case ho => rfl); (case hg => rfl); (case hn => rfl); (case hr => first | (go_simp; done) | (go_simp; rfl)); intro w46 hw; have hg : w43.grownBy w46 (some go36) := (by rw [hw]; exact HP45.2); have hp_ : Kd.R k88 88 w46 w.heap.size (fun _ => True) (.slice (some ⟨go36, 0, none⟩) x219002_2.length co41) y222 := (by rw [hw, Ny222.out]; exact HP45.1); clear HP45; have n0_ := Aside0.mk (hp_); have n1_ := Aside0.mk (blk_grown (g := gb211) (o := .cells #[.int .i64 a0_0, .int .i64 a0_1, .slice A0_2 l0_2.length c0_2, .int .i64 a0_3, .int .i64 a0_4] 34 (0, 0)) (zh BK211) hg (Kd.R_ne HO_219002.out BK211.out (by decide))); have n2_ := Aside0.mk (blk_grown (g := gb212) (o := .cells #[.int .i64 0, .int .i64 0, .slice none 0 0, .int .i64 0, .int .i64 0] 34 (0, 0)) (zh BK212) hg (Kd.R_ne HO_219002.out BK212.out (by decide))); have n3_ := Aside0.mk (blk_grown (g := gb218) (o := .cells #[.int .i64 a0_0, .int .i64 a0_1, .slice (some ⟨go36, 0, none⟩) x219002_2.length co41, .int .i64 (wrap64 (a0_3 + a1)), .int .i64 (wrap64 (a0_4 + a1))] 34 (0, 0)) (zh BK218) hg (Kd.R_ne HO_219002.out BK218.out (by decide))); have n4_ := Aside0.mk ((by rw [hw]; exact below_set (HB.out) GB36.out : Below w.heap.size w w46)); clear HO_219002 BK211 BK212 BK218 HB; revert n0_ n1_ n2_ n3_ n4_; intro HO_219002 BK211 BK212 BK218 HB; clear hg hw hp_))
     go_roundg k2
     case measure => have := HJ2.out; have := HK2.out; omega
     case rel => exact ⟨(wrap64 (x34_2 + 1)), (y222), (.slice (some ⟨go36, 0, none⟩) x219002_2.length co41), zi, H', ⟨by have := HJ2.out; have := HK2.out; omega⟩, ⟨zr HO_219002⟩, ⟨zh BK211⟩, ⟨zh BK212⟩, ⟨zh BK218⟩, ⟨zs3 HB GE211 GE212 GE218⟩⟩
end Go.Proofs.Ytidenmcoilmbcaa.QFnExactFlyShift
