/- The walk of what the law FnExactFlyNext reaches: laid by a program of this session (ownprint.py). -/
import Derived.Test.YtidenmcoilmbcaaQFnExactFlyNextx0
import Derived.Test.YtidenmcoilmbcaaQFnExactFlyNextx9
import Derived.Test.YtidenmcoilmbcaaQFnExactFlyNextx11
namespace Go.Proofs.Ytidenmcoilmbcaa.QFnExactFlyNext
open Go.RowKit Go.Proofs.YtidenmcoilmbcaaW.PrintWords Go.Proofs.YtidenmcoilmbcaaW.PrintLast Go.Proofs.YtidenmcoilmbcaaW.PrintMore Go.Proofs.Ytidenmcoilmbcaa.Z
attribute [local go_sem] max2_int min2_int max_two min_two max_three min_three max_four min_four zdn   -- for this text's walks alone
set_option linter.unusedVariables false
set_option linter.unusedSimpArgs false
def spec_l26Held.l0 : Nat → List Int → Int → Int → Int → List (S88) → Int → Int → Option (Int × Int × (List (S88)) × Int × Int)
 | 0, _, _, _, _, _, _, _ => none
 | k + 1, x1, x6, x286000, x286001, x286002, x286003, x286004 => if x6 < (x1.length : Int) then (if x6 < (x286002.length : Int) then (if 0 ≤ x6 then ((spec_l21Max.f ((rd_T88 x286002 x6).f4) (rd x1 x6)).bind fun t288 => ((some (x286002.set (x6 : Int).toNat (⟨(rd_T88 x286002 x6).f0, (rd_T88 x286002 x6).f1, (rd_T88 x286002 x6).f2, (rd_T88 x286002 x6).f3, t288, (rd_T88 x286002 x6).f5, (rd_T88 x286002 x6).f6⟩ : S88) : List (S88))).bind fun y289 => ((spec_l21Min.f ((rd_T88 y289 x6).f5) (rd x1 x6)).bind fun t292 => (spec_l26Held.l0 k x1 (wrap64 (x6 + 1)) x286000 x286001 (y289.set (x6 : Int).toNat (⟨(rd_T88 y289 x6).f0, (rd_T88 y289 x6).f1, (rd_T88 y289 x6).f2, (rd_T88 y289 x6).f3, (rd_T88 y289 x6).f4, t292, (rd_T88 y289 x6).f6⟩ : S88)) x286003 x286004)))) else (none)) else (if 0 ≤ x6 then ((spec_l21Max.f x286003 (rd x1 x6)).bind fun t295 => ((spec_l21Min.f x286004 (rd x1 x6)).bind fun t297 => (spec_l26Held.l0 k x1 (wrap64 (x6 + 1)) x286000 x286001 x286002 t295 t297))) else (none))) else (some (x286000, x286001, x286002, x286003, x286004))
def spec_l26Held.f (k : Nat) (a0_0 : Int) (a0_1 : Int) (l0_2 : List (S88)) (a0_3 : Int) (a0_4 : Int) (l1 : List Int) : Option (Int × Int × (List (S88)) × Int × Int) := (spec_l22Copy.f a0_0 a0_1 l0_2 a0_3 a0_4).bind fun bt278 => (spec_l26Held.l0 k l1 0 bt278.1 bt278.2.1 bt278.2.2.1 bt278.2.2.2.1 bt278.2.2.2.2)
def spec_l26Held.T6 : Bool × List (List Nat × List Nat) := (true, [([], []), ([0], [0]), ([], []), ([], []), ([3], [3]), ([], []), ([4, 5], [4, 5]), ([6], [6]), ([7], [7]), ([], []), ([], []), ([9, 10], [9, 10]), ([11], [11]), ([8, 12], [8, 12]), ([1, 2, 0, 1, 2, 3, 4, 5, 6, 7, 8, 9, 10, 11, 12, 13], [1, 2]), ([14, 0, 1, 2, 3, 4, 5, 6, 7, 8, 9, 10, 11, 12, 13], [14]), ([15, 13, 13, 0, 1, 2, 3, 4, 5, 6, 7, 8, 9, 10, 11, 12, 13], [13, 15])])
def spec_l26Held.B6 : List Nat := [0, 1, 0, 0, 8, 0, 56, 120, 248, 0, 0, 1536, 3584, 8184, 16383, 32767, 65535]
theorem spec_l26Held.tab6 : rtab .any (opsOf Try.f66 6) = spec_l26Held.T6 := by kernel_rfl
theorem spec_l26Held.bits6 : waitsOk spec_l26Held.T6.2 spec_l26Held.B6 = true := by kernel_rfl
def spec_l26Held.T7 : Bool × List (List Nat × List Nat) := (true, [([], []), ([0], [0]), ([], []), ([], []), ([3], [3]), ([], []), ([4, 5], [4, 5]), ([6], [6]), ([7], [7]), ([], []), ([], []), ([9, 10], [9, 10]), ([11], [11]), ([8, 12], [8, 12]), ([1, 2, 0, 1, 2, 3, 4, 5, 6, 7, 8, 9, 10, 11, 12, 13], [1, 2]), ([14, 0, 1, 2, 3, 4, 5, 6, 7, 8, 9, 10, 11, 12, 13], [14]), ([15, 13, 13, 0, 1, 2, 3, 4, 5, 6, 7, 8, 9, 10, 11, 12, 13], [13, 15])])
def spec_l26Held.B7 : List Nat := [0, 1, 0, 0, 8, 0, 56, 120, 248, 0, 0, 1536, 3584, 8184, 16383, 32767, 65535]
theorem spec_l26Held.tab7 : rtab .any (opsOf Try.f66 7) = spec_l26Held.T7 := by kernel_rfl
theorem spec_l26Held.bits7 : waitsOk spec_l26Held.T7.2 spec_l26Held.B7 = true := by kernel_rfl
def spec_l26Held.T8 : Bool × List (List Nat × List Nat) := (true, [([], []), ([0], [0]), ([], []), ([], []), ([2, 3], [2, 3]), ([4], [4]), ([1, 5], [1, 5]), ([0, 1, 2, 3, 4, 5, 6], []), ([7, 6, 6, 0, 1, 2, 3, 4, 5, 6], [6, 7])])
def spec_l26Held.B8 : List Nat := [0, 1, 0, 0, 12, 28, 63, 127, 255]
theorem spec_l26Held.tab8 : rtab .any (opsOf Try.f66 8) = spec_l26Held.T8 := by kernel_rfl
theorem spec_l26Held.bits8 : waitsOk spec_l26Held.T8.2 spec_l26Held.B8 = true := by kernel_rfl
def spec_l26Held.T9 : Bool × List (List Nat × List Nat) := (true, [([], []), ([0], [0]), ([], []), ([], []), ([2, 3], [2, 3]), ([4], [4]), ([1, 5], [1, 5]), ([0, 1, 2, 3, 4, 5, 6], []), ([7, 6, 6, 0, 1, 2, 3, 4, 5, 6], [6, 7])])
def spec_l26Held.B9 : List Nat := [0, 1, 0, 0, 12, 28, 63, 127, 255]
theorem spec_l26Held.tab9 : rtab .any (opsOf Try.f66 9) = spec_l26Held.T9 := by kernel_rfl
theorem spec_l26Held.bits9 : waitsOk spec_l26Held.T9.2 spec_l26Held.B9 = true := by kernel_rfl
set_option maxHeartbeats 8000000 in
set_option maxRecDepth 100000 in
theorem spec_l26Held.calls (k : Nat) (a0_0 : Int) (a0_1 : Int) (A0_2 : Option Addr) (c0_2 : Nat) (l0_2 : List (S88)) (a0_3 : Int) (a0_4 : Int) (A1 : Option Addr) (c1 : Nat) (l1 : List Int) (r1 : Int) (r2 : Int) (r3 : List (S88)) (r4 : Int) (r5 : Int) (w : World) (hr0_2 : Kd.C k88 w A0_2 l0_2.length l0_2) (hc0_2 : l0_2.length ≤ c0_2) (hr1 : Kd.C (Kd.int .i64) w A1 l1.length l1) (hc1 : l1.length ≤ c1) (h : spec_l26Held.f k a0_0 a0_1 l0_2 a0_3 a0_4 l1 = some (r1, r2, r3, r4, r5)) :
 Calls Try.prog 66 #[.agg #[.int .i64 a0_0, .int .i64 a0_1, .slice A0_2 l0_2.length c0_2, .int .i64 a0_3, .int .i64 a0_4], .slice A1 l1.length c1] w fun e w' => ∃ v2_ : Value, e = .returned (.agg #[.int .i64 r1, .int .i64 r2, v2_, .int .i64 r4, .int .i64 r5]) ∧ Kd.R k88 88 w' w.heap.size (fun _ => True) v2_ r3 ∧ Below w.heap.size w w' := by
 have hu34 := Try.underlying34
 have HR0_2 := Aside0.mk hr0_2
 have HC0_2 := Aside0.mk hc0_2
 clear hr0_2 hc0_2
 have HR1 := Aside0.mk hr1
 have HC1 := Aside0.mk hc1
 clear hr1 hc1
 have HB := Aside0.mk (Below.refl w.heap.size w)
 have H : ((spec_l22Copy.f a0_0 a0_1 l0_2 a0_3 a0_4).bind fun bt278 => (spec_l26Held.l0 k l1 0 bt278.1 bt278.2.1 bt278.2.2.1 bt278.2.2.2.1 bt278.2.2.2.2)) = some (r1, r2, r3, r4, r5) := h
 clear h
 replace H := Option.bind_eq_some_iff.mp H
 obtain ⟨⟨t278, t279, t280, t283, t284⟩, A30, H⟩ := H
 replace H : (spec_l26Held.l0 k l1 0 t278 t279 t280 t283 t284) = some (r1, r2, r3, r4, r5) := H
 have A3 := Aside0.mk A30
 clear A30
 have H' := Aside0.mk H
 clear H
 go_enter Try.func66, Try.ntmps66
 go_wp2_with (first | ((with_reducible refine gate_dst (N := 2) rfl ?_); refine box_event (by rfl) (N := 2) (by rfl) (cs := #[.int .i64 a0_0, .int .i64 a0_1, .slice A0_2 l0_2.length c0_2, .int .i64 a0_3, .int .i64 a0_4]) (t := 34) zg ?_; intro gb276 hg w4 hbox hb; have n0_ := Aside0.mk (below_step (zs0 HB) hb); have n1_ := Aside0.mk (hbox); have n2_ := Aside0.mk ((by rw [hg]; exact (below_size (zs0 HB)) : w.heap.size ≤ gb276)); have n3_ := Aside0.mk ((by rw [hg]; exact (below_size (zs0 HB)) : w.heap.size ≤ gb276)); clear HB; have HB := n0_; have BK276 := n1_; have GW276 := n2_; have GE276 := n3_; clear n0_ n1_ n2_ n3_; clear hb hbox hg) | ((with_reducible refine gate_dst (N := 4) rfl ?_); refine box_event (by rfl) (N := 4) (by rfl) (cs := #[.int .i64 0, .int .i64 0, .slice none 0 0, .int .i64 0, .int .i64 0]) (t := 34) zg ?_; intro gb277 hg w5 hbox hb; have n0_ := zb BK276 hb; have n1_ := Aside0.mk (below_step (zs1 HB GE276) hb); have n2_ := Aside0.mk (hbox); have n3_ := Aside0.mk ((by rw [hg]; exact (below_size (zs1 HB GE276)) : w.heap.size ≤ gb277)); have n4_ := Aside0.mk ((by rw [hg]; exact (below_size (zs1 HB GE276)) : w.heap.size ≤ gb277)); have n5_ := Aside0.mk ((by rw [hg]; exact Nat.ne_of_lt (blk_lt (g := gb276) (o := .cells #[.int .i64 a0_0, .int .i64 a0_1, .slice A0_2 l0_2.length c0_2, .int .i64 a0_3, .int .i64 a0_4] 34 (0, 0)) (zh BK276)) : gb276 ≠ gb277)); have n6_ := Aside0.mk ((by rw [hg]; exact Nat.ne_of_gt (blk_lt (g := gb276) (o := .cells #[.int .i64 a0_0, .int .i64 a0_1, .slice A0_2 l0_2.length c0_2, .int .i64 a0_3, .int .i64 a0_4] 34 (0, 0)) (zh BK276)) : gb277 ≠ gb276)); clear BK276; clear HB; have BK276 := n0_; have HB := n1_; have BK277 := n2_; have GW277 := n3_; have GE277 := n4_; have NB276_277 := n5_; have NB277_276 := n6_; clear n0_ n1_ n2_ n3_ n4_ n5_ n6_; clear hb hbox hg; have hnb6 := NB276_277.out; have hnc6 := NB277_276.out; obtain ⟨hcz7_0, hcz7_1, hcz7_2, hcz7_3, hcz7_4⟩ := zd5 BK276; obtain ⟨hfz7_0, hfz7_1, hfz7_2, hfz7_3, hfz7_4⟩ := zn5 BK276) | ((with_reducible refine gate_callee (f := 83) rfl ?_); refine goesL_ (some 8) rfl rfl Try.func83 (by kernel_rfl) rfl #[.agg #[.int .i64 a0_0, .int .i64 a0_1, .slice A0_2 l0_2.length c0_2, .int .i64 a0_3, .int .i64 a0_4]] rfl zl ?_; (with_reducible refine (spec_l22Copy.calls a0_0 a0_1 _ _ l0_2 a0_3 a0_4 t278 t279 t280 t283 t284 _ ?side1 ?side2 A3.out).mono ?_); (case side1 => exact zC HR0_2 HB); (case side2 => exact HC0_2.out); rintro e w8 ⟨v281, rfl, ho0, hb⟩; refine ⟨_, rfl, ?_⟩; have n0_ := Aside0.mk (Kd.R_lower ho0 (below_size (zs2 HB GE276 GE277))); have n1_ := zb BK276 hb; have n2_ := zb BK277 hb; have n3_ := Aside0.mk (below_step (zs2 HB GE276 GE277) hb); clear BK276; clear BK277; clear HB; have HO282 := n0_; have BK276 := n1_; have BK277 := n2_; have HB := n3_; clear n0_ n1_ n2_ n3_; (try clear hb); (try clear hb2); (try clear hk); (try clear hi); (try clear ho0)) | ((with_reducible refine gate_dst (N := 5) rfl ?_); refine box_event (by rfl) (N := 5) (by rfl) (cs := #[.int .i64 0, .int .i64 0, .slice none 0 0, .int .i64 0, .int .i64 0]) (t := 34) zg ?_; intro gb285 hg w9 hbox hb; have n0_ := Aside0.mk (Kd.R_below (zr HO282) hb); have n1_ := zb BK276 hb; have n2_ := zb BK277 hb; have n3_ := Aside0.mk (below_step (zs2 HB GE276 GE277) hb); have n4_ := Aside0.mk (hbox); have n5_ := Aside0.mk ((by rw [hg]; exact (below_size (zs2 HB GE276 GE277)) : w.heap.size ≤ gb285)); have n6_ := Aside0.mk ((by rw [hg]; exact (below_size (zs2 HB GE276 GE277)) : w.heap.size ≤ gb285)); have n7_ := Aside0.mk ((by rw [hg]; exact Nat.ne_of_lt (blk_lt (g := gb276) (o := .cells #[.int .i64 a0_0, .int .i64 a0_1, .slice A0_2 l0_2.length c0_2, .int .i64 a0_3, .int .i64 a0_4] 34 (0, 0)) (zh BK276)) : gb276 ≠ gb285)); have n8_ := Aside0.mk ((by rw [hg]; exact Nat.ne_of_gt (blk_lt (g := gb276) (o := .cells #[.int .i64 a0_0, .int .i64 a0_1, .slice A0_2 l0_2.length c0_2, .int .i64 a0_3, .int .i64 a0_4] 34 (0, 0)) (zh BK276)) : gb285 ≠ gb276)); have n9_ := Aside0.mk ((by rw [hg]; exact Nat.ne_of_lt (blk_lt (g := gb277) (o := .cells #[.int .i64 0, .int .i64 0, .slice none 0 0, .int .i64 0, .int .i64 0] 34 (0, 0)) (zh BK277)) : gb277 ≠ gb285)); have n10_ := Aside0.mk ((by rw [hg]; exact Nat.ne_of_gt (blk_lt (g := gb277) (o := .cells #[.int .i64 0, .int .i64 0, .slice none 0 0, .int .i64 0, .int .i64 0] 34 (0, 0)) (zh BK277)) : gb285 ≠ gb277)); clear HO282; clear BK276; clear BK277; clear HB; have HO282 := n0_; have BK276 := n1_; have BK277 := n2_; have HB := n3_; have BK285 := n4_; have GW285 := n5_; have GE285 := n6_; have NB276_285 := n7_; have NB285_276 := n8_; have NB277_285 := n9_; have NB285_277 := n10_; clear n0_ n1_ n2_ n3_ n4_ n5_ n6_ n7_ n8_ n9_ n10_; clear hb hbox hg; have hnb10 := NB285_276.out; have hnc10 := NB276_285.out; have hnb11 := NB285_277.out; have hnc11 := NB277_285.out; obtain ⟨hcz12_0, hcz12_1, hcz12_2, hcz12_3, hcz12_4⟩ := zd5 BK285; obtain ⟨hfz12_0, hfz12_1, hfz12_2, hfz12_3, hfz12_4⟩ := zn5 BK285; obtain ⟨Ao13, co13, eo13⟩ := Kd.R_slice HO282.out; subst eo13))
 go_loopg [6] k (fun kq v6 w' => ∃ (x6_1 : Int) (x286002_1 : List (S88)) (x286003_1 : Int) (x286004_1 : Int) (u286002 : Value), v6 = .int .i64 x6_1 ∧ Aside0 (spec_l26Held.l0 kq l1 x6_1 t278 t279 x286002_1 x286003_1 x286004_1 = some (r1, r2, r3, r4, r5)) ∧ Aside0 (kq ≤ k) ∧ Aside0 (Kd.R k88 88 w' w.heap.size (fun _ => True) u286002 x286002_1) ∧ Aside0 (w'.heap[gb276]? = some (.cells #[.int .i64 a0_0, .int .i64 a0_1, (.slice A0_2 l0_2.length c0_2), .int .i64 a0_3, .int .i64 a0_4] 34 (0, 0))) ∧ Aside0 (w'.heap[gb277]? = some (.cells #[.int .i64 0, .int .i64 0, (.slice none 0 0), .int .i64 0, .int .i64 0] 34 (0, 0))) ∧ Aside0 (w'.heap[gb285]? = some (.cells #[.int .i64 t278, .int .i64 t279, u286002, .int .i64 x286003_1, .int .i64 x286004_1] 34 (0, 0))) ∧ Aside0 (Below w.heap.size w w'))
 case atStart => exact ⟨(0), (t280), (t283), (t284), (.slice Ao13 t280.length co13), zi, H', ⟨Nat.le_refl _⟩, ⟨by (with_reducible repeat (first | apply Kd.R_alloc | apply Kd.R_drewN | apply Kd.R_drew)); exact Kd.R_mono (Kd.R_far (p := ⟨gb285, 4, none⟩) (Kd.R_far (p := ⟨gb285, 3, none⟩) (Kd.R_far (p := ⟨gb285, 2, none⟩) (Kd.R_far (p := ⟨gb285, 1, none⟩) (Kd.R_far (p := ⟨gb285, 0, none⟩) (Kd.R_types HO282.out BK285.out (by decide)) (fun _ hk => hk.2) (.int .i64 t278)) (fun _ hk => hk.2) (.int .i64 t279)) (fun _ hk => hk.2) (.slice Ao13 t280.length co13)) (fun _ hk => hk.2) (.int .i64 t283)) (fun _ hk => hk.2) (.int .i64 t284)) (fun _ hk => trivial)⟩, ⟨by (with_reducible repeat (first | refine blk_drewN ?_ _ | refine blk_drew ?_ | refine blk_alloc ?_ _)); refine blk_far ?_ NB276_285.out _; (with_reducible repeat (first | refine blk_drewN ?_ _ | refine blk_drew ?_ | refine blk_alloc ?_ _)); refine blk_far ?_ NB276_285.out _; (with_reducible repeat (first | refine blk_drewN ?_ _ | refine blk_drew ?_ | refine blk_alloc ?_ _)); refine blk_far ?_ NB276_285.out _; (with_reducible repeat (first | refine blk_drewN ?_ _ | refine blk_drew ?_ | refine blk_alloc ?_ _)); refine blk_far ?_ NB276_285.out _; (with_reducible repeat (first | refine blk_drewN ?_ _ | refine blk_drew ?_ | refine blk_alloc ?_ _)); refine blk_far ?_ NB276_285.out _; (with_reducible repeat (first | refine blk_drewN ?_ _ | refine blk_drew ?_ | refine blk_alloc ?_ _)); exact BK276.out⟩, ⟨by (with_reducible repeat (first | refine blk_drewN ?_ _ | refine blk_drew ?_ | refine blk_alloc ?_ _)); refine blk_far ?_ NB277_285.out _; (with_reducible repeat (first | refine blk_drewN ?_ _ | refine blk_drew ?_ | refine blk_alloc ?_ _)); refine blk_far ?_ NB277_285.out _; (with_reducible repeat (first | refine blk_drewN ?_ _ | refine blk_drew ?_ | refine blk_alloc ?_ _)); refine blk_far ?_ NB277_285.out _; (with_reducible repeat (first | refine blk_drewN ?_ _ | refine blk_drew ?_ | refine blk_alloc ?_ _)); refine blk_far ?_ NB277_285.out _; (with_reducible repeat (first | refine blk_drewN ?_ _ | refine blk_drew ?_ | refine blk_alloc ?_ _)); refine blk_far ?_ NB277_285.out _; (with_reducible repeat (first | refine blk_drewN ?_ _ | refine blk_drew ?_ | refine blk_alloc ?_ _)); exact BK277.out⟩, ⟨by (with_reducible repeat (first | refine blk_drewN ?_ _ | refine blk_drew ?_ | refine blk_alloc ?_ _)); refine blk_put (cs := #[.int .i64 t278, .int .i64 t279, .slice Ao13 t280.length co13, .int .i64 t283, .int .i64 0]) ?_ 4 _ rfl; (with_reducible repeat (first | refine blk_drewN ?_ _ | refine blk_drew ?_ | refine blk_alloc ?_ _)); refine blk_put (cs := #[.int .i64 t278, .int .i64 t279, .slice Ao13 t280.length co13, .int .i64 0, .int .i64 0]) ?_ 3 _ rfl; (with_reducible repeat (first | refine blk_drewN ?_ _ | refine blk_drew ?_ | refine blk_alloc ?_ _)); refine blk_put (cs := #[.int .i64 t278, .int .i64 t279, .slice none 0 0, .int .i64 0, .int .i64 0]) ?_ 2 _ rfl; (with_reducible repeat (first | refine blk_drewN ?_ _ | refine blk_drew ?_ | refine blk_alloc ?_ _)); refine blk_put (cs := #[.int .i64 t278, .int .i64 0, .slice none 0 0, .int .i64 0, .int .i64 0]) ?_ 1 _ rfl; (with_reducible repeat (first | refine blk_drewN ?_ _ | refine blk_drew ?_ | refine blk_alloc ?_ _)); refine blk_put (cs := #[.int .i64 0, .int .i64 0, .slice none 0 0, .int .i64 0, .int .i64 0]) ?_ 0 _ rfl; (with_reducible repeat (first | refine blk_drewN ?_ _ | refine blk_drew ?_ | refine blk_alloc ?_ _)); exact BK285.out⟩, ⟨zs3 HB GE276 GE277 GE285⟩⟩
 case round =>
  clear H'
  try clear c1
  try clear p2
  try clear c6
  try clear c8
  try clear c10
  try clear c11
  try clear hcz12_0
  try clear hcz12_1
  try clear hcz12_2
  try clear hcz12_3
  try clear hcz12_4
  try clear hcz7_0
  try clear hcz7_1
  try clear hcz7_2
  try clear hcz7_3
  try clear hcz7_4
  try clear hfz12_0
  try clear hfz12_1
  try clear hfz12_2
  try clear hfz12_3
  try clear hfz12_4
  try clear hfz7_0
  try clear hfz7_1
  try clear hfz7_2
  try clear hfz7_3
  try clear hfz7_4
  obtain ⟨x6_1, x286002_1, x286003_1, x286004_1, u286002, rfl, HA, HK1, HO_286002, BK276, BK277, BK285, HB⟩ := hrel
  cases gk with
  | zero => exact absurd HA.out (by simp [spec_l26Held.l0])
  | succ k1 =>
   have H := HA.out
   clear HA
   simp only [spec_l26Held.l0] at H
   by_cases c14 : x6_1 < (l1.length : Int)
   rotate_left
   ·rw [if_neg c14] at H
    have c14b0 : decide (x6_1 < (l1.length : Int)) = false := decide_eq_false c14
    clear c14
    simp only [Option.some.injEq, Prod.mk.injEq] at H
    obtain ⟨rfl, rfl, rfl, rfl, rfl⟩ := H
    have hnb42 := NB285_276.out
    have hnc42 := NB276_285.out
    have hnb43 := NB285_277.out
    have hnc43 := NB277_285.out
    obtain ⟨hcz44_0, hcz44_1, hcz44_2, hcz44_3, hcz44_4⟩ := zd5 BK285
    obtain ⟨hfz44_0, hfz44_1, hfz44_2, hfz44_3, hfz44_4⟩ := zn5 BK285
    have hnb45 := NB277_276.out
    have hnc45 := NB276_277.out
    obtain ⟨hcz46_0, hcz46_1, hcz46_2, hcz46_3, hcz46_4⟩ := zd5 BK277
    obtain ⟨hfz46_0, hfz46_1, hfz46_2, hfz46_3, hfz46_4⟩ := zn5 BK277
    obtain ⟨Ao47, co47, eo47⟩ := Kd.R_slice HO_286002.out
    subst eo47
    go_wp2
    refine bodyPost_ret (results_cell_row rfl _ _ gb277 34 #[.int .i64 t278, .int .i64 t279, .slice Ao47 x286002_1.length co47, .int .i64 x286003_1, .int .i64 x286004_1] (0, 0) _ rfl (by (with_reducible repeat (first | refine blk_drewN ?_ _ | refine blk_drew ?_ | refine blk_alloc ?_ _)); refine blk_put (cs := #[.int .i64 t278, .int .i64 t279, .slice Ao47 x286002_1.length co47, .int .i64 x286003_1, .int .i64 0]) ?_ 4 _ rfl; (with_reducible repeat (first | refine blk_drewN ?_ _ | refine blk_drew ?_ | refine blk_alloc ?_ _)); refine blk_put (cs := #[.int .i64 t278, .int .i64 t279, .slice Ao47 x286002_1.length co47, .int .i64 0, .int .i64 0]) ?_ 3 _ rfl; (with_reducible repeat (first | refine blk_drewN ?_ _ | refine blk_drew ?_ | refine blk_alloc ?_ _)); refine blk_put (cs := #[.int .i64 t278, .int .i64 t279, .slice none 0 0, .int .i64 0, .int .i64 0]) ?_ 2 _ rfl; (with_reducible repeat (first | refine blk_drewN ?_ _ | refine blk_drew ?_ | refine blk_alloc ?_ _)); refine blk_put (cs := #[.int .i64 t278, .int .i64 0, .slice none 0 0, .int .i64 0, .int .i64 0]) ?_ 1 _ rfl; (with_reducible repeat (first | refine blk_drewN ?_ _ | refine blk_drew ?_ | refine blk_alloc ?_ _)); refine blk_put (cs := #[.int .i64 0, .int .i64 0, .slice none 0 0, .int .i64 0, .int .i64 0]) ?_ 0 _ rfl; (with_reducible repeat (first | refine blk_drewN ?_ _ | refine blk_drew ?_ | refine blk_alloc ?_ _)); exact BK277.out) Try.underlying34 rfl (by kernel_rfl)) rfl ?_
    exact ⟨_, ze, by (with_reducible repeat (first | apply Kd.R_alloc | apply Kd.R_drewN | apply Kd.R_drew)); exact Kd.R_mono (Kd.R_far (p := ⟨gb277, 4, none⟩) (Kd.R_far (p := ⟨gb277, 3, none⟩) (Kd.R_far (p := ⟨gb277, 2, none⟩) (Kd.R_far (p := ⟨gb277, 1, none⟩) (Kd.R_far (p := ⟨gb277, 0, none⟩) (Kd.R_types HO_286002.out BK277.out (by decide)) (fun _ hk => hk.2) (.int .i64 t278)) (fun _ hk => hk.2) (.int .i64 t279)) (fun _ hk => hk.2) (.slice Ao47 x286002_1.length co47)) (fun _ hk => hk.2) (.int .i64 x286003_1)) (fun _ hk => hk.2) (.int .i64 x286004_1)) (fun _ hk => trivial), zs3 HB GE276 GE277 GE285⟩
   rw [if_pos c14] at H
   have c14b0 : decide (x6_1 < (l1.length : Int)) = true := decide_eq_true c14
   clear c14
   by_cases c15 : x6_1 < (x286002_1.length : Int)
   rotate_left
   ·rw [if_neg c15] at H
    have c15b0 : decide (x6_1 < (x286002_1.length : Int)) = false := decide_eq_false c15
    clear c15
    by_cases c30 : 0 ≤ x6_1
    rotate_left
    ·rw [if_neg c30] at H
     exact absurd H (by simp)
    rw [if_pos c30] at H
    have c30b0 : decide (0 ≤ x6_1) = true := decide_eq_true c30
    clear c30
    replace H := Option.bind_eq_some_iff.mp H
    obtain ⟨t295, A310, H⟩ := H
    replace H : ((spec_l21Min.f x286004_1 (rd l1 x6_1)).bind fun t297 => (spec_l26Held.l0 k1 l1 (wrap64 (x6_1 + 1)) t278 t279 x286002_1 t295 t297)) = some (r1, r2, r3, r4, r5) := H
    have A31 := Aside0.mk A310
    clear A310
    replace H := Option.bind_eq_some_iff.mp H
    obtain ⟨t297, A320, H⟩ := H
    replace H : (spec_l26Held.l0 k1 l1 (wrap64 (x6_1 + 1)) t278 t279 x286002_1 t295 t297) = some (r1, r2, r3, r4, r5) := H
    have A32 := Aside0.mk A320
    clear A320
    have H' := Aside0.mk H
    clear H
    have hnb33 := NB285_276.out
    have hnc33 := NB276_285.out
    have hnb34 := NB285_277.out
    have hnc34 := NB277_285.out
    obtain ⟨hcz35_0, hcz35_1, hcz35_2, hcz35_3, hcz35_4⟩ := zd5 BK285
    obtain ⟨hfz35_0, hfz35_1, hfz35_2, hfz35_3, hfz35_4⟩ := zn5 BK285
    obtain ⟨Ao36, co36, eo36⟩ := Kd.R_slice HO_286002.out
    subst eo36
    try go_wp2
    have n0_ := Aside0.mk (Kd.R_drew HO_286002.out)
    have n1_ := Aside0.mk (blk_drew BK276.out)
    have n2_ := Aside0.mk (blk_drew BK277.out)
    have n3_ := Aside0.mk (blk_drew BK285.out)
    have n4_ := Aside0.mk (below_drew1 HB.out)
    clear HO_286002 BK276 BK277 BK285 HB
    revert n0_ n1_ n2_ n3_ n4_
    intro HO_286002 BK276 BK277 BK285 HB
    have p294 : 0 ≤ (x6_1 : Int) := za
    have q294 : x6_1 < (l1.length : Int) := za
    obtain ⟨ad294, e294, hx294_0⟩ := Kd.at_int HR1.out x6_1 p294 q294
    have hw294_0 := hx294_0
    cases e294
    replace hx294_0 := zx HB hx294_0
    replace p294 := eq_true p294
    replace q294 := eq_true q294
    refine start_ (n := 9) (S := fun w' => w'.cell? ⟨gb285, 0, none⟩ = some (.int .i64 t278) ∧ w'.cell? ⟨gb285, 1, none⟩ = some (.int .i64 t279) ∧ w'.cell? ⟨gb285, 2, none⟩ = some (.slice Ao36 x286002_1.length co36) ∧ w'.cell? ⟨gb285, 3, none⟩ = some (.int .i64 x286003_1) ∧ w'.cell? ⟨gb285, 4, none⟩ = some (.int .i64 x286004_1) ∧ w'.cell? (ad294.add (x6_1).toNat) = some (.int .i64 (rd l1 x6_1))) (ds := [8]) #[false, false, false, false, false, false, false, false, false] (by kernel_rfl) rfl rfl ⟨(blk_cell BK285.out 0).trans rfl, (blk_cell BK285.out 1).trans rfl, (blk_cell BK285.out 2).trans rfl, (blk_cell BK285.out 3).trans rfl, (blk_cell BK285.out 4).trans rfl, (zw HB hw294_0)⟩ (fun hHeld => ?_); refine with_tabW spec_l26Held.tab8 spec_l26Held.bits8 (fun HT_ HW_ => ?_)
    generalize wr.drew = w37 at HO_286002 BK276 BK277 BK285 HB hx294_0 hHeld ⊢
    refine pure_ (i := 0) (N := some 52) (v := ?_) (a' := ?_) #[true, false, false, false, false, false, false, false, false] rfl rfl (any_of HT_.out (by kernel_rfl)) (fun _ _ _ h => h) (Or.inl ⟨by rfl, ?_⟩) ?_ ?_; rotate_left; exact zy; rotate_left; exact zput
    refine pure_ (i := 2) (N := some 54) (v := ?_) (a' := ?_) #[true, false, true, false, false, false, false, false, false] rfl rfl (any_of HT_.out (by kernel_rfl)) (fun _ _ _ h => h) (Or.inl ⟨by rfl, ?_⟩) ?_ ?_; rotate_left; exact zy; rotate_left; exact zput
    refine pure_ (i := 3) (N := some 55) (v := ?_) (a' := ?_) #[true, false, true, true, false, false, false, false, false] rfl rfl (any_of HT_.out (by kernel_rfl)) (fun _ _ _ h => h) (Or.inl ⟨by rfl, ?_⟩) ?_ ?_; rotate_left; exact zy; rotate_left; exact zput
    refine pure_ (i := 4) (N := some 56) (v := ?_) (a' := ?_) #[true, false, true, true, true, false, false, false, false] rfl rfl (any_of HT_.out (by kernel_rfl)) (fun _ _ _ h => h) (Or.inl ⟨by rfl, ?_⟩) ?_ ?_; rotate_left; exact zy; rotate_left; exact zput
    refine take_ (i := 1) (N := some 53) (v := ?_) (a' := ?_) #[true, true, true, true, true, false, false, false, false] rfl rfl (take_ofW HT_.out HW_.out (by kernel_rfl)) (fun _ _ _ h => h) (Or.inl ⟨by rfl, ?_⟩) hHeld ?_ ?_; rotate_left; exact zt6; rotate_left; exact zput
    refine take_ (i := 5) (N := some 57) (v := ?_) (a' := ?_) #[true, true, true, true, true, true, false, false, false] rfl rfl (take_ofW HT_.out HW_.out (by kernel_rfl)) (fun _ _ _ h => h) (Or.inl ⟨by rfl, ?_⟩) hHeld ?_ ?_; rotate_left; exact zt6; rotate_left; exact zput
    refine one_ (i := 6) (N := some 58) #[true, true, true, true, true, true, true, false, false] rfl rfl (one_of HT_.out (by kernel_rfl)) (by decide) (fun K hK => ?_)
    refine goes_ Try.func54 (by kernel_rfl) rfl #[.int .i64 x286003_1, .int .i64 (rd l1 x6_1)] (by rfl) rfl rfl zl ?_
    with_reducible refine (spec_l21Max.calls x286003_1 (rd l1 x6_1) t295 _ A31.out).mono ?_
    rintro e w' ⟨rfl, ⟨nd, rfl⟩⟩
    refine ⟨_, rfl, ?_⟩
    refine hK.out _ _ ⟨(blk_cell BK285.out 0).trans rfl, (blk_cell BK285.out 1).trans rfl, (blk_cell BK285.out 2).trans rfl, (blk_cell BK285.out 3).trans rfl, (blk_cell BK285.out 4).trans rfl, (zw HB hw294_0)⟩ (fun hHeld => ?_)
    clear hK K
    refine norm_ (a' := ?_) ?_ ?_
    rotate_left
    ·show Act.put _ (some 58) _ = _
     simp only [Act.put, List.setIfInBounds_toArray, List.set_cons_zero, List.set_cons_succ, i64_w, i32_w]
     rfl
    refine pure_ (i := 7) (N := some 59) (v := ?_) (a' := ?_) #[true, true, true, true, true, true, true, true, false] rfl rfl (any_of HT_.out (by kernel_rfl)) (fun _ _ _ h => h) (Or.inl ⟨by rfl, ?_⟩) ?_ ?_; rotate_left; exact zy; rotate_left; exact zput
    refine last_ (i := 8) (N := none) #[true, true, true, true, true, true, true, true, true] rfl rfl (one_of HT_.out (by kernel_rfl)) (by decide) (fun K hK => ?_)
    have hs38 : w37.cell? ⟨gb285, 3, none⟩ = some (.int .i64 x286003_1) := (blk_cell BK285.out 3).trans rfl
    have hfs38 := zf BK285 3
    have hns38_0 := NB276_285.out
    have hns38_1 := NB277_285.out
    have hms38_0 := NB285_276.out
    have hms38_1 := NB285_277.out
    refine skip_ (w1 := ?_) (by rfl) rfl ?_ ?_
    rotate_left
    ·go_simp
     rfl
    refine hK.out _ _ ?_
    clear hK K
    refine done_ (done_of HT_.out (by kernel_rfl)) ?_
    try go_wp2
    have n0_ : Aside0 (Kd.R k88 88 (w37.setCell ⟨gb285, 3, none⟩ (.int .i64 t295)) w.heap.size (fun _ => True) (.slice Ao36 x286002_1.length co36) x286002_1) := ⟨by (with_reducible repeat (first | apply Kd.R_alloc | apply Kd.R_drewN | apply Kd.R_drew)); exact Kd.R_mono (Kd.R_far (p := ⟨gb285, 3, none⟩) (Kd.R_types HO_286002.out BK285.out (by decide)) (fun _ hk => hk.2) (.int .i64 t295)) (fun _ hk => trivial)⟩
    have n1_ : Aside0 ((w37.setCell ⟨gb285, 3, none⟩ (.int .i64 t295)).heap[gb276]? = some (.cells #[.int .i64 a0_0, .int .i64 a0_1, .slice A0_2 l0_2.length c0_2, .int .i64 a0_3, .int .i64 a0_4] 34 (0, 0))) := ⟨by (with_reducible repeat (first | refine blk_drewN ?_ _ | refine blk_drew ?_ | refine blk_alloc ?_ _)); refine blk_far ?_ NB276_285.out _; (with_reducible repeat (first | refine blk_drewN ?_ _ | refine blk_drew ?_ | refine blk_alloc ?_ _)); exact BK276.out⟩
    have n2_ : Aside0 ((w37.setCell ⟨gb285, 3, none⟩ (.int .i64 t295)).heap[gb277]? = some (.cells #[.int .i64 0, .int .i64 0, .slice none 0 0, .int .i64 0, .int .i64 0] 34 (0, 0))) := ⟨by (with_reducible repeat (first | refine blk_drewN ?_ _ | refine blk_drew ?_ | refine blk_alloc ?_ _)); refine blk_far ?_ NB277_285.out _; (with_reducible repeat (first | refine blk_drewN ?_ _ | refine blk_drew ?_ | refine blk_alloc ?_ _)); exact BK277.out⟩
    have n3_ : Aside0 ((w37.setCell ⟨gb285, 3, none⟩ (.int .i64 t295)).heap[gb285]? = some (.cells #[.int .i64 t278, .int .i64 t279, .slice Ao36 x286002_1.length co36, .int .i64 t295, .int .i64 x286004_1] 34 (0, 0))) := ⟨by (with_reducible repeat (first | refine blk_drewN ?_ _ | refine blk_drew ?_ | refine blk_alloc ?_ _)); refine blk_put (cs := #[.int .i64 t278, .int .i64 t279, .slice Ao36 x286002_1.length co36, .int .i64 x286003_1, .int .i64 x286004_1]) ?_ 3 _ rfl; (with_reducible repeat (first | refine blk_drewN ?_ _ | refine blk_drew ?_ | refine blk_alloc ?_ _)); exact BK285.out⟩
    have n4_ : Aside0 (Below w.heap.size w (w37.setCell ⟨gb285, 3, none⟩ (.int .i64 t295))) := ⟨zs3 HB GE276 GE277 GE285⟩
    (try clear HO_286002)
    (try clear BK276)
    (try clear BK277)
    (try clear BK285)
    (try clear HB)
    generalize (w37.setCell ⟨gb285, 3, none⟩ (.int .i64 t295)) = w39 at n0_ n1_ n2_ n3_ n4_ ⊢
    have HO_286002 := n0_
    have BK276 := n1_
    have BK277 := n2_
    have BK285 := n3_
    have HB := n4_
    clear n0_ n1_ n2_ n3_ n4_
    (try (rw [drewN_self w39]; generalize hq_ : World.drewN w39 _ = w39; have n0_ : Aside0 (Kd.R k88 88 w39 w.heap.size (fun _ => True) (.slice Ao36 x286002_1.length co36) x286002_1) := ⟨by rw [← hq_]; exact (zr HO_286002)⟩; have n1_ : Aside0 (w39.heap[gb276]? = some (.cells #[.int .i64 a0_0, .int .i64 a0_1, .slice A0_2 l0_2.length c0_2, .int .i64 a0_3, .int .i64 a0_4] 34 (0, 0))) := ⟨by rw [← hq_]; exact (zh BK276)⟩; have n2_ : Aside0 (w39.heap[gb277]? = some (.cells #[.int .i64 0, .int .i64 0, .slice none 0 0, .int .i64 0, .int .i64 0] 34 (0, 0))) := ⟨by rw [← hq_]; exact (zh BK277)⟩; have n3_ : Aside0 (w39.heap[gb285]? = some (.cells #[.int .i64 t278, .int .i64 t279, .slice Ao36 x286002_1.length co36, .int .i64 t295, .int .i64 x286004_1] 34 (0, 0))) := ⟨by rw [← hq_]; exact (zh BK285)⟩; have n4_ : Aside0 (Below w.heap.size w w39) := ⟨by rw [← hq_]; exact (zs3 HB GE276 GE277 GE285)⟩; clear HO_286002 BK276 BK277 BK285 HB hq_; have HO_286002 := n0_; have BK276 := n1_; have BK277 := n2_; have BK285 := n3_; have HB := n4_; clear n0_ n1_ n2_ n3_ n4_))
    have n0_ := Aside0.mk (Kd.R_drew HO_286002.out)
    have n1_ := Aside0.mk (blk_drew BK276.out)
    have n2_ := Aside0.mk (blk_drew BK277.out)
    have n3_ := Aside0.mk (blk_drew BK285.out)
    have n4_ := Aside0.mk (below_drew1 HB.out)
    clear HO_286002 BK276 BK277 BK285 HB
    revert n0_ n1_ n2_ n3_ n4_
    intro HO_286002 BK276 BK277 BK285 HB
    have p296 : 0 ≤ (x6_1 : Int) := za
    have q296 : x6_1 < (l1.length : Int) := za
    obtain ⟨ad296, e296, hx296_0⟩ := Kd.at_int HR1.out x6_1 p296 q296
    have hw296_0 := hx296_0
    obtain rfl : ad294 = ad296 := (by injection e296)
    replace hx296_0 := zx HB hx296_0
    replace p296 := eq_true p296
    replace q296 := eq_true q296
    refine start_ (n := 9) (S := fun w' => w'.cell? ⟨gb285, 0, none⟩ = some (.int .i64 t278) ∧ w'.cell? ⟨gb285, 1, none⟩ = some (.int .i64 t279) ∧ w'.cell? ⟨gb285, 2, none⟩ = some (.slice Ao36 x286002_1.length co36) ∧ w'.cell? ⟨gb285, 3, none⟩ = some (.int .i64 t295) ∧ w'.cell? ⟨gb285, 4, none⟩ = some (.int .i64 x286004_1) ∧ w'.cell? (ad294.add (x6_1).toNat) = some (.int .i64 (rd l1 x6_1))) (ds := [8]) #[false, false, false, false, false, false, false, false, false] (by kernel_rfl) rfl rfl ⟨(blk_cell BK285.out 0).trans rfl, (blk_cell BK285.out 1).trans rfl, (blk_cell BK285.out 2).trans rfl, (blk_cell BK285.out 3).trans rfl, (blk_cell BK285.out 4).trans rfl, (zw HB hw296_0)⟩ (fun hHeld => ?_); refine with_tabW spec_l26Held.tab9 spec_l26Held.bits9 (fun HT_ HW_ => ?_)
    generalize w39.drew = w40 at HO_286002 BK276 BK277 BK285 HB hx296_0 hHeld ⊢
    refine pure_ (i := 0) (N := some 60) (v := ?_) (a' := ?_) #[true, false, false, false, false, false, false, false, false] rfl rfl (any_of HT_.out (by kernel_rfl)) (fun _ _ _ h => h) (Or.inl ⟨by rfl, ?_⟩) ?_ ?_; rotate_left; exact zy; rotate_left; exact zput
    refine pure_ (i := 2) (N := some 62) (v := ?_) (a' := ?_) #[true, false, true, false, false, false, false, false, false] rfl rfl (any_of HT_.out (by kernel_rfl)) (fun _ _ _ h => h) (Or.inl ⟨by rfl, ?_⟩) ?_ ?_; rotate_left; exact zy; rotate_left; exact zput
    refine pure_ (i := 3) (N := some 63) (v := ?_) (a' := ?_) #[true, false, true, true, false, false, false, false, false] rfl rfl (any_of HT_.out (by kernel_rfl)) (fun _ _ _ h => h) (Or.inl ⟨by rfl, ?_⟩) ?_ ?_; rotate_left; exact zy; rotate_left; exact zput
    refine pure_ (i := 4) (N := some 64) (v := ?_) (a' := ?_) #[true, false, true, true, true, false, false, false, false] rfl rfl (any_of HT_.out (by kernel_rfl)) (fun _ _ _ h => h) (Or.inl ⟨by rfl, ?_⟩) ?_ ?_; rotate_left; exact zy; rotate_left; exact zput
    refine take_ (i := 1) (N := some 61) (v := ?_) (a' := ?_) #[true, true, true, true, true, false, false, false, false] rfl rfl (take_ofW HT_.out HW_.out (by kernel_rfl)) (fun _ _ _ h => h) (Or.inl ⟨by rfl, ?_⟩) hHeld ?_ ?_; rotate_left; exact zt6; rotate_left; exact zput
    refine take_ (i := 5) (N := some 65) (v := ?_) (a' := ?_) #[true, true, true, true, true, true, false, false, false] rfl rfl (take_ofW HT_.out HW_.out (by kernel_rfl)) (fun _ _ _ h => h) (Or.inl ⟨by rfl, ?_⟩) hHeld ?_ ?_; rotate_left; exact zt6; rotate_left; exact zput
    refine one_ (i := 6) (N := some 66) #[true, true, true, true, true, true, true, false, false] rfl rfl (one_of HT_.out (by kernel_rfl)) (by decide) (fun K hK => ?_)
    refine goes_ Try.func53 (by kernel_rfl) rfl #[.int .i64 x286004_1, .int .i64 (rd l1 x6_1)] (by rfl) rfl rfl zl ?_
    with_reducible refine (spec_l21Min.calls x286004_1 (rd l1 x6_1) t297 _ A32.out).mono ?_
    rintro e w' ⟨rfl, ⟨nd, rfl⟩⟩
    refine ⟨_, rfl, ?_⟩
    refine hK.out _ _ ⟨(blk_cell BK285.out 0).trans rfl, (blk_cell BK285.out 1).trans rfl, (blk_cell BK285.out 2).trans rfl, (blk_cell BK285.out 3).trans rfl, (blk_cell BK285.out 4).trans rfl, (zw HB hw296_0)⟩ (fun hHeld => ?_)
    clear hK K
    refine norm_ (a' := ?_) ?_ ?_
    rotate_left
    ·show Act.put _ (some 66) _ = _
     simp only [Act.put, List.setIfInBounds_toArray, List.set_cons_zero, List.set_cons_succ, i64_w, i32_w]
     rfl
    refine pure_ (i := 7) (N := some 67) (v := ?_) (a' := ?_) #[true, true, true, true, true, true, true, true, false] rfl rfl (any_of HT_.out (by kernel_rfl)) (fun _ _ _ h => h) (Or.inl ⟨by rfl, ?_⟩) ?_ ?_; rotate_left; exact zy; rotate_left; exact zput
    refine last_ (i := 8) (N := none) #[true, true, true, true, true, true, true, true, true] rfl rfl (one_of HT_.out (by kernel_rfl)) (by decide) (fun K hK => ?_)
    have hs41 : w40.cell? ⟨gb285, 4, none⟩ = some (.int .i64 x286004_1) := (blk_cell BK285.out 4).trans rfl
    have hfs41 := zf BK285 4
    have hns41_0 := NB276_285.out
    have hns41_1 := NB277_285.out
    have hms41_0 := NB285_276.out
    have hms41_1 := NB285_277.out
    refine skip_ (w1 := ?_) (by rfl) rfl ?_ ?_
    rotate_left
    ·go_simp
     rfl
    refine hK.out _ _ ?_
    clear hK K
    refine done_ (done_of HT_.out (by kernel_rfl)) ?_
    try go_wp2
    go_roundg k1
    case measure => have := HK1.out; omega
    case rel => exact ⟨(wrap64 (x6_1 + 1)), (x286002_1), (t295), (t297), (.slice Ao36 x286002_1.length co36), zi, H', ⟨by have := HK1.out; omega⟩, ⟨by (with_reducible repeat (first | apply Kd.R_alloc | apply Kd.R_drewN | apply Kd.R_drew)); exact Kd.R_mono (Kd.R_far (p := ⟨gb285, 4, none⟩) (Kd.R_types HO_286002.out BK285.out (by decide)) (fun _ hk => hk.2) (.int .i64 t297)) (fun _ hk => trivial)⟩, ⟨by (with_reducible repeat (first | refine blk_drewN ?_ _ | refine blk_drew ?_ | refine blk_alloc ?_ _)); refine blk_far ?_ NB276_285.out _; (with_reducible repeat (first | refine blk_drewN ?_ _ | refine blk_drew ?_ | refine blk_alloc ?_ _)); exact BK276.out⟩, ⟨by (with_reducible repeat (first | refine blk_drewN ?_ _ | refine blk_drew ?_ | refine blk_alloc ?_ _)); refine blk_far ?_ NB277_285.out _; (with_reducible repeat (first | refine blk_drewN ?_ _ | refine blk_drew ?_ | refine blk_alloc ?_ _)); exact BK277.out⟩, ⟨by (with_reducible repeat (first | refine blk_drewN ?_ _ | refine blk_drew ?_ | refine blk_alloc ?_ _)); refine blk_put (cs := #[.int .i64 t278, .int .i64 t279, .slice Ao36 x286002_1.length co36, .int .i64 t295, .int .i64 x286004_1]) ?_ 4 _ rfl; (with_reducible repeat (first | refine blk_drewN ?_ _ | refine blk_drew ?_ | refine blk_alloc ?_ _)); exact BK285.out⟩, ⟨zs3 HB GE276 GE277 GE285⟩⟩
   rw [if_pos c15] at H
   have c15b0 : decide (x6_1 < (x286002_1.length : Int)) = true := decide_eq_true c15
   clear c15
   by_cases c16 : 0 ≤ x6_1
   rotate_left
   ·rw [if_neg c16] at H
    exact absurd H (by simp)
   rw [if_pos c16] at H
   have c16b0 : decide (0 ≤ x6_1) = true := decide_eq_true c16
   clear c16
   replace H := Option.bind_eq_some_iff.mp H
   obtain ⟨t288, A170, H⟩ := H
   replace H : ((some (x286002_1.set (x6_1 : Int).toNat (⟨(rd_T88 x286002_1 x6_1).f0, (rd_T88 x286002_1 x6_1).f1, (rd_T88 x286002_1 x6_1).f2, (rd_T88 x286002_1 x6_1).f3, t288, (rd_T88 x286002_1 x6_1).f5, (rd_T88 x286002_1 x6_1).f6⟩ : S88) : List (S88))).bind fun y289 => ((spec_l21Min.f ((rd_T88 y289 x6_1).f5) (rd l1 x6_1)).bind fun t292 => (spec_l26Held.l0 k1 l1 (wrap64 (x6_1 + 1)) t278 t279 (y289.set (x6_1 : Int).toNat (⟨(rd_T88 y289 x6_1).f0, (rd_T88 y289 x6_1).f1, (rd_T88 y289 x6_1).f2, (rd_T88 y289 x6_1).f3, (rd_T88 y289 x6_1).f4, t292, (rd_T88 y289 x6_1).f6⟩ : S88)) x286003_1 x286004_1))) = some (r1, r2, r3, r4, r5) := H
   have A17 := Aside0.mk A170
   clear A170
   obtain ⟨y289, hy289⟩ : ∃ y_ : List (S88), y_ = (x286002_1.set (x6_1 : Int).toNat (⟨(rd_T88 x286002_1 x6_1).f0, (rd_T88 x286002_1 x6_1).f1, (rd_T88 x286002_1 x6_1).f2, (rd_T88 x286002_1 x6_1).f3, t288, (rd_T88 x286002_1 x6_1).f5, (rd_T88 x286002_1 x6_1).f6⟩ : S88)) := ⟨_, rfl⟩
   replace H : ((spec_l21Min.f ((rd_T88 y289 x6_1).f5) (rd l1 x6_1)).bind fun t292 => (spec_l26Held.l0 k1 l1 (wrap64 (x6_1 + 1)) t278 t279 (y289.set (x6_1 : Int).toNat (⟨(rd_T88 y289 x6_1).f0, (rd_T88 y289 x6_1).f1, (rd_T88 y289 x6_1).f2, (rd_T88 y289 x6_1).f3, (rd_T88 y289 x6_1).f4, t292, (rd_T88 y289 x6_1).f6⟩ : S88)) x286003_1 x286004_1)) = some (r1, r2, r3, r4, r5) := by first | (rw [hy289]; with_reducible exact H) | (have H2_ := (Option.bind_some _ _).symm.trans H; rw [hy289]; with_reducible exact H2_) | (have H2_ := (Option.bind_some _ _).symm.trans H; with_reducible exact H2_) | with_reducible exact H | (rw [hy289]; exact H) | exact H
   have Ny289 := Aside0.mk hy289
   clear hy289
   replace H := Option.bind_eq_some_iff.mp H
   obtain ⟨t292, A190, H⟩ := H
   replace H : (spec_l26Held.l0 k1 l1 (wrap64 (x6_1 + 1)) t278 t279 (y289.set (x6_1 : Int).toNat (⟨(rd_T88 y289 x6_1).f0, (rd_T88 y289 x6_1).f1, (rd_T88 y289 x6_1).f2, (rd_T88 y289 x6_1).f3, (rd_T88 y289 x6_1).f4, t292, (rd_T88 y289 x6_1).f6⟩ : S88)) x286003_1 x286004_1) = some (r1, r2, r3, r4, r5) := H
   have A19 := Aside0.mk A190
   clear A190
   obtain ⟨y293, hy293⟩ : ∃ y_ : List (S88), y_ = (y289.set (x6_1 : Int).toNat (⟨(rd_T88 y289 x6_1).f0, (rd_T88 y289 x6_1).f1, (rd_T88 y289 x6_1).f2, (rd_T88 y289 x6_1).f3, (rd_T88 y289 x6_1).f4, t292, (rd_T88 y289 x6_1).f6⟩ : S88)) := ⟨_, rfl⟩
   replace H : (spec_l26Held.l0 k1 l1 (wrap64 (x6_1 + 1)) t278 t279 y293 x286003_1 x286004_1) = some (r1, r2, r3, r4, r5) := by first | (rw [hy293]; with_reducible exact H) | (have H2_ := (Option.bind_some _ _).symm.trans H; rw [hy293]; with_reducible exact H2_) | (have H2_ := (Option.bind_some _ _).symm.trans H; with_reducible exact H2_) | with_reducible exact H | (rw [hy293]; exact H) | exact H
   have Ny293 := Aside0.mk hy293
   clear hy293
   have H' := Aside0.mk H
   clear H
   have hnb21 := NB285_276.out
   have hnc21 := NB276_285.out
   have hnb22 := NB285_277.out
   have hnc22 := NB277_285.out
   obtain ⟨hcz23_0, hcz23_1, hcz23_2, hcz23_3, hcz23_4⟩ := zd5 BK285
   obtain ⟨hfz23_0, hfz23_1, hfz23_2, hfz23_3, hfz23_4⟩ := zn5 BK285
   obtain ⟨Ao24, co24, eo24⟩ := Kd.R_slice HO_286002.out
   subst eo24
   try go_wp2
   have n0_ := Aside0.mk (Kd.R_drew HO_286002.out)
   have n1_ := Aside0.mk (blk_drew BK276.out)
   have n2_ := Aside0.mk (blk_drew BK277.out)
   have n3_ := Aside0.mk (blk_drew BK285.out)
   have n4_ := Aside0.mk (below_drew1 HB.out)
   clear HO_286002 BK276 BK277 BK285 HB
   revert n0_ n1_ n2_ n3_ n4_
   intro HO_286002 BK276 BK277 BK285 HB
   have p286 : 0 ≤ (x6_1 : Int) := za
   have q286 : x6_1 < (x286002_1.length : Int) := za
   obtain ⟨ad286, e286, hx286_0, hx286_1, hx286_2, hx286_3, hx286_4, hx286_5, hx286_6⟩ := at_T88 (Kd.R_reads' HO_286002.out).2.2 x6_1 p286 q286
   cases e286
   replace p286 := eq_true p286
   replace q286 := eq_true q286
   have p287 : 0 ≤ (x6_1 : Int) := za
   have q287 : x6_1 < (l1.length : Int) := za
   obtain ⟨ad287, e287, hx287_0⟩ := Kd.at_int HR1.out x6_1 p287 q287
   have hw287_0 := hx287_0
   cases e287
   replace hx287_0 := zx HB hx287_0
   replace p287 := eq_true p287
   replace q287 := eq_true q287
   refine start_ (n := 17) (S := fun w' => w'.cell? ⟨gb285, 0, none⟩ = some (.int .i64 t278) ∧ w'.cell? ⟨gb285, 1, none⟩ = some (.int .i64 t279) ∧ w'.cell? ⟨gb285, 2, none⟩ = some (.slice (some ad286) x286002_1.length co24) ∧ w'.cell? ⟨gb285, 3, none⟩ = some (.int .i64 x286003_1) ∧ w'.cell? ⟨gb285, 4, none⟩ = some (.int .i64 x286004_1) ∧ w'.cell? (ad286.add ((x6_1).toNat * 7)) = some (.int .i64 ((rd_T88 x286002_1 x6_1).f0)) ∧ w'.cell? ⟨(ad286.add ((x6_1).toNat * 7)).block, (ad286.add ((x6_1).toNat * 7)).off + 1, none⟩ = some (.int .i64 ((rd_T88 x286002_1 x6_1).f1)) ∧ w'.cell? ⟨(ad286.add ((x6_1).toNat * 7)).block, (ad286.add ((x6_1).toNat * 7)).off + 2, none⟩ = some (.int .i64 ((rd_T88 x286002_1 x6_1).f2)) ∧ w'.cell? ⟨(ad286.add ((x6_1).toNat * 7)).block, (ad286.add ((x6_1).toNat * 7)).off + 3, none⟩ = some (.int .i64 ((rd_T88 x286002_1 x6_1).f3)) ∧ w'.cell? ⟨(ad286.add ((x6_1).toNat * 7)).block, (ad286.add ((x6_1).toNat * 7)).off + 4, none⟩ = some (.int .i64 ((rd_T88 x286002_1 x6_1).f4)) ∧ w'.cell? ⟨(ad286.add ((x6_1).toNat * 7)).block, (ad286.add ((x6_1).toNat * 7)).off + 5, none⟩ = some (.int .i64 ((rd_T88 x286002_1 x6_1).f5)) ∧ w'.cell? ⟨(ad286.add ((x6_1).toNat * 7)).block, (ad286.add ((x6_1).toNat * 7)).off + 6, none⟩ = some (.bool ((rd_T88 x286002_1 x6_1).f6)) ∧ w'.cell? (ad287.add (x6_1).toNat) = some (.int .i64 (rd l1 x6_1))) (ds := [16]) #[false, false, false, false, false, false, false, false, false, false, false, false, false, false, false, false, false] (by kernel_rfl) rfl rfl ⟨(blk_cell BK285.out 0).trans rfl, (blk_cell BK285.out 1).trans rfl, (blk_cell BK285.out 2).trans rfl, (blk_cell BK285.out 3).trans rfl, (blk_cell BK285.out 4).trans rfl, hx286_0, hx286_1, hx286_2, hx286_3, hx286_4, hx286_5, hx286_6, (zw HB hw287_0)⟩ (fun hHeld => ?_); refine with_tabW spec_l26Held.tab6 spec_l26Held.bits6 (fun HT_ HW_ => ?_)
   generalize wr.drew = w25 at HO_286002 BK276 BK277 BK285 HB hx286_0 hx286_1 hx286_2 hx286_3 hx286_4 hx286_5 hx286_6 hx287_0 hHeld ⊢
   refine pure_ (i := 0) (N := some 20) (v := ?_) (a' := ?_) #[true, false, false, false, false, false, false, false, false, false, false, false, false, false, false, false, false] rfl rfl (any_of HT_.out (by kernel_rfl)) (fun _ _ _ h => h) (Or.inl ⟨by rfl, ?_⟩) ?_ ?_; rotate_left; exact zy; rotate_left; exact zput
   refine pure_ (i := 2) (N := some 22) (v := ?_) (a' := ?_) #[true, false, true, false, false, false, false, false, false, false, false, false, false, false, false, false, false] rfl rfl (any_of HT_.out (by kernel_rfl)) (fun _ _ _ h => h) (Or.inl ⟨by rfl, ?_⟩) ?_ ?_; rotate_left; exact zy; rotate_left; exact zput
   refine pure_ (i := 3) (N := some 23) (v := ?_) (a' := ?_) #[true, false, true, true, false, false, false, false, false, false, false, false, false, false, false, false, false] rfl rfl (any_of HT_.out (by kernel_rfl)) (fun _ _ _ h => h) (Or.inl ⟨by rfl, ?_⟩) ?_ ?_; rotate_left; exact zy; rotate_left; exact zput
   refine pure_ (i := 5) (N := some 25) (v := ?_) (a' := ?_) #[true, false, true, true, false, true, false, false, false, false, false, false, false, false, false, false, false] rfl rfl (any_of HT_.out (by kernel_rfl)) (fun _ _ _ h => h) (Or.inl ⟨by rfl, ?_⟩) ?_ ?_; rotate_left; exact zy; rotate_left; exact zput
   refine pure_ (i := 9) (N := some 29) (v := ?_) (a' := ?_) #[true, false, true, true, false, true, false, false, false, true, false, false, false, false, false, false, false] rfl rfl (any_of HT_.out (by kernel_rfl)) (fun _ _ _ h => h) (Or.inl ⟨by rfl, ?_⟩) ?_ ?_; rotate_left; exact zy; rotate_left; exact zput
   refine pure_ (i := 10) (N := some 30) (v := ?_) (a' := ?_) #[true, false, true, true, false, true, false, false, false, true, true, false, false, false, false, false, false] rfl rfl (any_of HT_.out (by kernel_rfl)) (fun _ _ _ h => h) (Or.inl ⟨by rfl, ?_⟩) ?_ ?_; rotate_left; exact zy; rotate_left; exact zput
   refine pure_ (i := 11) (N := some 31) (v := ?_) (a' := ?_) #[true, false, true, true, false, true, false, false, false, true, true, true, false, false, false, false, false] rfl rfl (any_of HT_.out (by kernel_rfl)) (fun _ _ _ h => h) (Or.inl ⟨by rfl, ?_⟩) ?_ ?_; rotate_left; exact zy; rotate_left; exact zput
   refine take_ (i := 1) (N := some 21) (v := ?_) (a' := ?_) #[true, true, true, true, false, true, false, false, false, true, true, true, false, false, false, false, false] rfl rfl (take_ofW HT_.out HW_.out (by kernel_rfl)) (fun _ _ _ h => h) (Or.inl ⟨by rfl, ?_⟩) hHeld ?_ ?_; rotate_left; exact zt13; rotate_left; exact zput
   refine take_ (i := 4) (N := some 24) (v := ?_) (a' := ?_) #[true, true, true, true, true, true, false, false, false, true, true, true, false, false, false, false, false] rfl rfl (take_ofW HT_.out HW_.out (by kernel_rfl)) (fun _ _ _ h => h) (Or.inl ⟨by rfl, ?_⟩) hHeld ?_ ?_; rotate_left; exact zt13; rotate_left; exact zput
   refine pure_ (i := 6) (N := some 26) (v := ?_) (a' := ?_) #[true, true, true, true, true, true, true, false, false, true, true, true, false, false, false, false, false] rfl rfl (any_of HT_.out (by kernel_rfl)) (fun _ _ _ h => h) (Or.inl ⟨by rfl, ?_⟩) ?_ ?_; rotate_left; exact zy; rotate_left; exact zput
   refine pure_ (i := 7) (N := some 27) (v := ?_) (a' := ?_) #[true, true, true, true, true, true, true, true, false, true, true, true, false, false, false, false, false] rfl rfl (any_of HT_.out (by kernel_rfl)) (fun _ _ _ h => h) (Or.inl ⟨by rfl, ?_⟩) ?_ ?_; rotate_left; exact zy; rotate_left; exact zput
   refine take_ (i := 8) (N := some 28) (v := ?_) (a' := ?_) #[true, true, true, true, true, true, true, true, true, true, true, true, false, false, false, false, false] rfl rfl (take_ofW HT_.out HW_.out (by kernel_rfl)) (fun _ _ _ h => h) (Or.inl ⟨by rfl, ?_⟩) hHeld ?_ ?_; rotate_left; exact zt13; rotate_left; exact zput
   refine take_ (i := 12) (N := some 32) (v := ?_) (a' := ?_) #[true, true, true, true, true, true, true, true, true, true, true, true, true, false, false, false, false] rfl rfl (take_ofW HT_.out HW_.out (by kernel_rfl)) (fun _ _ _ h => h) (Or.inl ⟨by rfl, ?_⟩) hHeld ?_ ?_; rotate_left; exact zt13; rotate_left; exact zput
   refine one_ (i := 13) (N := some 33) #[true, true, true, true, true, true, true, true, true, true, true, true, true, true, false, false, false] rfl rfl (one_of HT_.out (by kernel_rfl)) (by decide) (fun K hK => ?_)
   refine goes_ Try.func54 (by kernel_rfl) rfl #[.int .i64 ((rd_T88 x286002_1 x6_1).f4), .int .i64 (rd l1 x6_1)] (by rfl) rfl rfl zl ?_
   with_reducible refine (spec_l21Max.calls ((rd_T88 x286002_1 x6_1).f4) (rd l1 x6_1) t288 _ A17.out).mono ?_
   rintro e w' ⟨rfl, ⟨nd, rfl⟩⟩
   refine ⟨_, rfl, ?_⟩
   have p18 : 0 ≤ (x6_1 : Int) := za
   have q18 : (x6_1 : Int) < ((x286002_1.length : Int) : Int) := za
   obtain ⟨go18, co18, eo18, gb18, gl18, cl18, HG18⟩ := Kd.R_form HO_286002.out (by omega)
   (first | cases eo18 | (injection eo18 with ea_ en_ ec_; (first | subst ea_ | (injection ea_ with ea_; subst ea_)); subst ec_; clear en_))
   have GB18 := Aside0.mk gb18
   have GG18 := Aside0.mk HG18
   clear gb18 gl18 HG18
   (first | simp only [add_plain] at hx286_0 | skip)
   (first | simp only [add_plain] at hx286_1 | skip)
   (first | simp only [add_plain] at hx286_2 | skip)
   (first | simp only [add_plain] at hx286_3 | skip)
   (first | simp only [add_plain] at hx286_4 | skip)
   (first | simp only [add_plain] at hx286_5 | skip)
   (first | simp only [add_plain] at hx286_6 | skip)
   obtain ⟨ce18, hcl18, hM18, hcc18, hfr18⟩ := Kd.R_elem HO_286002.out z88 (x6_1 : Int) p18 q18
   obtain rfl := k88_openM hM18
   have hx18_0 : World.cell? _ ⟨go18, (x6_1 : Int).toNat * 7, none⟩ = some (.int .i64 ((rd_T88 x286002_1 x6_1).f0)) := hcc18 0 _ rfl
   have hx18_1 : World.cell? _ ⟨go18, (x6_1 : Int).toNat * 7 + 1, none⟩ = some (.int .i64 ((rd_T88 x286002_1 x6_1).f1)) := hcc18 1 _ rfl
   have hx18_2 : World.cell? _ ⟨go18, (x6_1 : Int).toNat * 7 + 2, none⟩ = some (.int .i64 ((rd_T88 x286002_1 x6_1).f2)) := hcc18 2 _ rfl
   have hx18_3 : World.cell? _ ⟨go18, (x6_1 : Int).toNat * 7 + 3, none⟩ = some (.int .i64 ((rd_T88 x286002_1 x6_1).f3)) := hcc18 3 _ rfl
   have hx18_4 : World.cell? _ ⟨go18, (x6_1 : Int).toNat * 7 + 4, none⟩ = some (.int .i64 ((rd_T88 x286002_1 x6_1).f4)) := hcc18 4 _ rfl
   have hx18_5 : World.cell? _ ⟨go18, (x6_1 : Int).toNat * 7 + 5, none⟩ = some (.int .i64 ((rd_T88 x286002_1 x6_1).f5)) := hcc18 5 _ rfl
   have hx18_6 : World.cell? _ ⟨go18, (x6_1 : Int).toNat * 7 + 6, none⟩ = some (.bool ((rd_T88 x286002_1 x6_1).f6)) := hcc18 6 _ rfl
   have hf18_0 : World.frozen? _ ⟨go18, (x6_1 : Int).toNat * 7, none⟩ = false := hfr18 0
   have hf18_1 : World.frozen? _ ⟨go18, (x6_1 : Int).toNat * 7 + 1, none⟩ = false := hfr18 1
   have hf18_2 : World.frozen? _ ⟨go18, (x6_1 : Int).toNat * 7 + 2, none⟩ = false := hfr18 2
   have hf18_3 : World.frozen? _ ⟨go18, (x6_1 : Int).toNat * 7 + 3, none⟩ = false := hfr18 3
   have hf18_4 : World.frozen? _ ⟨go18, (x6_1 : Int).toNat * 7 + 4, none⟩ = false := hfr18 4
   have hf18_5 : World.frozen? _ ⟨go18, (x6_1 : Int).toNat * 7 + 5, none⟩ = false := hfr18 5
   have hf18_6 : World.frozen? _ ⟨go18, (x6_1 : Int).toNat * 7 + 6, none⟩ = false := hfr18 6
   clear hcl18 hcc18 hfr18 hM18
   replace p18 := eq_true p18
   replace q18 := eq_true q18
   obtain ⟨ce26, hcl26, hM26, hcc26, hfr26⟩ := Kd.R_elem HO_286002.out z88 (x6_1 : Int) (za) (by have h_ : (x6_1 : Int) < ((x286002_1.length : Int) : Int) := za; first | exact h_ | (have e_ := (Kd.R_reads' HO_286002.out).1; omega) | simpa using h_)
   obtain rfl := k88_openM hM26
   have HP26 := (Kd.R_seg HO_286002.out (x6_1 : Int) (za) (by have h_ : (x6_1 : Int) < ((x286002_1.length : Int) : Int) := za; first | exact h_ | (have e_ := (Kd.R_reads' HO_286002.out).1; omega) | simpa using h_) (seg := [.int .i64 t288]) (j := 4) hcl26 hcc26 (show 5 ≤ 7 from by decide) (x' := (⟨(rd_T88 x286002_1 x6_1).f0, (rd_T88 x286002_1 x6_1).f1, (rd_T88 x286002_1 x6_1).f2, (rd_T88 x286002_1 x6_1).f3, t288, (rd_T88 x286002_1 x6_1).f5, (rd_T88 x286002_1 x6_1).f6⟩ : S88)) (k88_mkM _ _ _ (⟨(rd_T88 x286002_1 x6_1).f0, (rd_T88 x286002_1 x6_1).f1, (rd_T88 x286002_1 x6_1).f2, (rd_T88 x286002_1 x6_1).f3, t288, (rd_T88 x286002_1 x6_1).f5, (rd_T88 x286002_1 x6_1).f6⟩ : S88) ) (fun _ hk => hk)).1
   rw [← Ny289.out] at HP26
   have HQ26 := Aside0.mk HP26
   clear hcl26 hcc26 hfr26 hM26 HP26
   refine hK.out _ _ ⟨(blk_cell BK285.out 0).trans rfl, (blk_cell BK285.out 1).trans rfl, (blk_cell BK285.out 2).trans rfl, (blk_cell BK285.out 3).trans rfl, (blk_cell BK285.out 4).trans rfl, hHeld.2.2.2.2.2.1, hHeld.2.2.2.2.2.2.1, hHeld.2.2.2.2.2.2.2.1, hHeld.2.2.2.2.2.2.2.2.1, hHeld.2.2.2.2.2.2.2.2.2.1, hHeld.2.2.2.2.2.2.2.2.2.2.1, hHeld.2.2.2.2.2.2.2.2.2.2.2.1, (zw HB hw287_0)⟩ (fun hHeld => ?_)
   clear hK K
   refine norm_ (a' := ?_) ?_ ?_
   rotate_left
   ·show Act.put _ (some 33) _ = _
    simp only [Act.put, List.setIfInBounds_toArray, List.set_cons_zero, List.set_cons_succ, i64_w, i32_w]
    rfl
   refine pure_ (i := 14) (N := some 34) (v := ?_) (a' := ?_) #[true, true, true, true, true, true, true, true, true, true, true, true, true, true, true, false, false] rfl rfl (any_of HT_.out (by kernel_rfl)) (fun _ _ _ h => h) (Or.inl ⟨by rfl, ?_⟩) ?_ ?_; rotate_left; exact zy; rotate_left; exact zput
   refine pure_ (i := 15) (N := some 35) (v := ?_) (a' := ?_) #[true, true, true, true, true, true, true, true, true, true, true, true, true, true, true, true, false] rfl rfl (any_of HT_.out (by kernel_rfl)) (fun _ _ _ h => h) (Or.inl ⟨by rfl, ?_⟩) ?_ ?_; rotate_left; exact zy; rotate_left; exact zput
   refine last_ (i := 16) (N := none) #[true, true, true, true, true, true, true, true, true, true, true, true, true, true, true, true, true] rfl rfl (one_of HT_.out (by kernel_rfl)) (by decide) (fun K hK => ?_)
   refine skip_ (w1 := ?_) (by rfl) rfl ?_ ?_
   rotate_left
   ·go_simp
    rfl
   refine hK.out _ _ ?_
   clear hK K
   refine done_ (done_of HT_.out (by kernel_rfl)) ?_
   try go_wp2
   have n0_ : Aside0 (Kd.R k88 88 (w25.setCell ⟨go18, (x6_1 : Int).toNat * 7 + 4, none⟩ (.int .i64 t288)) w.heap.size (fun _ => True) (.slice (some ⟨go18, 0, none⟩) x286002_1.length co24) y289) := ⟨zr HQ26⟩
   have n1_ : Aside0 ((w25.setCell ⟨go18, (x6_1 : Int).toNat * 7 + 4, none⟩ (.int .i64 t288)).heap[gb276]? = some (.cells #[.int .i64 a0_0, .int .i64 a0_1, .slice A0_2 l0_2.length c0_2, .int .i64 a0_3, .int .i64 a0_4] 34 (0, 0))) := ⟨by (with_reducible repeat (first | refine blk_drewN ?_ _ | refine blk_drew ?_ | refine blk_alloc ?_ _)); refine blk_far ?_ (by have h_ := Kd.R_ne HO_286002.out BK276.out (by decide); intro e_; exact h_ (by rw [e_]; rfl)) _; (with_reducible repeat (first | refine blk_drewN ?_ _ | refine blk_drew ?_ | refine blk_alloc ?_ _)); exact BK276.out⟩
   have n2_ : Aside0 ((w25.setCell ⟨go18, (x6_1 : Int).toNat * 7 + 4, none⟩ (.int .i64 t288)).heap[gb277]? = some (.cells #[.int .i64 0, .int .i64 0, .slice none 0 0, .int .i64 0, .int .i64 0] 34 (0, 0))) := ⟨by (with_reducible repeat (first | refine blk_drewN ?_ _ | refine blk_drew ?_ | refine blk_alloc ?_ _)); refine blk_far ?_ (by have h_ := Kd.R_ne HO_286002.out BK277.out (by decide); intro e_; exact h_ (by rw [e_]; rfl)) _; (with_reducible repeat (first | refine blk_drewN ?_ _ | refine blk_drew ?_ | refine blk_alloc ?_ _)); exact BK277.out⟩
   have n3_ : Aside0 ((w25.setCell ⟨go18, (x6_1 : Int).toNat * 7 + 4, none⟩ (.int .i64 t288)).heap[gb285]? = some (.cells #[.int .i64 t278, .int .i64 t279, .slice (some ⟨go18, 0, none⟩) x286002_1.length co24, .int .i64 x286003_1, .int .i64 x286004_1] 34 (0, 0))) := ⟨by (with_reducible repeat (first | refine blk_drewN ?_ _ | refine blk_drew ?_ | refine blk_alloc ?_ _)); refine blk_far ?_ (by have h_ := Kd.R_ne HO_286002.out BK285.out (by decide); intro e_; exact h_ (by rw [e_]; rfl)) _; (with_reducible repeat (first | refine blk_drewN ?_ _ | refine blk_drew ?_ | refine blk_alloc ?_ _)); exact BK285.out⟩
   have n4_ : Aside0 (Below w.heap.size w (w25.setCell ⟨go18, (x6_1 : Int).toNat * 7 + 4, none⟩ (.int .i64 t288))) := ⟨by repeat (first | (with_reducible first | exact HB.out | apply below_alloc | apply pw_below_drewN | apply below_drew1 | refine below_set ?_ GB18.out | refine below_set ?_ GE276.out | refine below_set ?_ GE277.out | refine below_set ?_ GE285.out) | exact HB.out)⟩
   (try clear HO_286002)
   (try clear BK276)
   (try clear BK277)
   (try clear BK285)
   (try clear HB)
   generalize (w25.setCell ⟨go18, (x6_1 : Int).toNat * 7 + 4, none⟩ (.int .i64 t288)) = w27 at n0_ n1_ n2_ n3_ n4_ ⊢
   have HO_286002 := n0_
   have BK276 := n1_
   have BK277 := n2_
   have BK285 := n3_
   have HB := n4_
   clear n0_ n1_ n2_ n3_ n4_
   (try (rw [drewN_self w27]; generalize hq_ : World.drewN w27 _ = w27; have n0_ : Aside0 (Kd.R k88 88 w27 w.heap.size (fun _ => True) (.slice (some ⟨go18, 0, none⟩) x286002_1.length co24) y289) := ⟨by rw [← hq_]; exact (zr HO_286002)⟩; have n1_ : Aside0 (w27.heap[gb276]? = some (.cells #[.int .i64 a0_0, .int .i64 a0_1, .slice A0_2 l0_2.length c0_2, .int .i64 a0_3, .int .i64 a0_4] 34 (0, 0))) := ⟨by rw [← hq_]; exact (zh BK276)⟩; have n2_ : Aside0 (w27.heap[gb277]? = some (.cells #[.int .i64 0, .int .i64 0, .slice none 0 0, .int .i64 0, .int .i64 0] 34 (0, 0))) := ⟨by rw [← hq_]; exact (zh BK277)⟩; have n3_ : Aside0 (w27.heap[gb285]? = some (.cells #[.int .i64 t278, .int .i64 t279, .slice (some ⟨go18, 0, none⟩) x286002_1.length co24, .int .i64 x286003_1, .int .i64 x286004_1] 34 (0, 0))) := ⟨by rw [← hq_]; exact (zh BK285)⟩; have n4_ : Aside0 (Below w.heap.size w w27) := ⟨by rw [← hq_]; exact (zs3 HB GE276 GE277 GE285)⟩; clear HO_286002 BK276 BK277 BK285 HB hq_; have HO_286002 := n0_; have BK276 := n1_; have BK277 := n2_; have BK285 := n3_; have HB := n4_; clear n0_ n1_ n2_ n3_ n4_))
   have n0_ := Aside0.mk (Kd.R_drew HO_286002.out)
   have n1_ := Aside0.mk (blk_drew BK276.out)
   have n2_ := Aside0.mk (blk_drew BK277.out)
   have n3_ := Aside0.mk (blk_drew BK285.out)
   have n4_ := Aside0.mk (below_drew1 HB.out)
   clear HO_286002 BK276 BK277 BK285 HB
   revert n0_ n1_ n2_ n3_ n4_
   intro HO_286002 BK276 BK277 BK285 HB
   have p290 : 0 ≤ (x6_1 : Int) := za
   have q290 : x6_1 < (y289.length : Int) := (by have h_ : (x6_1 : Int) < ((x286002_1.length : Int) : Int) := za; first | (have e_ := (Kd.R_reads' HO_286002.out).1; omega) | simpa only [Ny289.out, List.length_set] using h_)
   have ql290 : ((x6_1 : Int) < ((x286002_1.length : Int) : Int)) = True := eq_true (za)
   obtain ⟨ad290, e290, hx290_0, hx290_1, hx290_2, hx290_3, hx290_4, hx290_5, hx290_6⟩ := at_T88 (Kd.R_reads' HO_286002.out).2.2 x6_1 p290 q290
   obtain rfl : (⟨go18, 0, none⟩ : Addr) = ad290 := (by injection e290)
   (first | simp only [add_plain] at hx290_0 | simp only [add_at] at hx290_0 | simp only [Addr.add, Nat.zero_add] at hx290_0 | skip)
   (first | simp only [add_plain] at hx290_1 | simp only [add_at] at hx290_1 | simp only [Addr.add, Nat.zero_add] at hx290_1 | skip)
   (first | simp only [add_plain] at hx290_2 | simp only [add_at] at hx290_2 | simp only [Addr.add, Nat.zero_add] at hx290_2 | skip)
   (first | simp only [add_plain] at hx290_3 | simp only [add_at] at hx290_3 | simp only [Addr.add, Nat.zero_add] at hx290_3 | skip)
   (first | simp only [add_plain] at hx290_4 | simp only [add_at] at hx290_4 | simp only [Addr.add, Nat.zero_add] at hx290_4 | skip)
   (first | simp only [add_plain] at hx290_5 | simp only [add_at] at hx290_5 | simp only [Addr.add, Nat.zero_add] at hx290_5 | skip)
   (first | simp only [add_plain] at hx290_6 | simp only [add_at] at hx290_6 | simp only [Addr.add, Nat.zero_add] at hx290_6 | skip)
   replace p290 := eq_true p290
   replace q290 := eq_true q290
   have p291 : 0 ≤ (x6_1 : Int) := za
   have q291 : x6_1 < (l1.length : Int) := za
   obtain ⟨ad291, e291, hx291_0⟩ := Kd.at_int HR1.out x6_1 p291 q291
   have hw291_0 := hx291_0
   obtain rfl : ad287 = ad291 := (by injection e291)
   replace hx291_0 := zx HB hx291_0
   replace p291 := eq_true p291
   replace q291 := eq_true q291
   refine start_ (n := 17) (S := fun w' => w'.cell? ⟨gb285, 0, none⟩ = some (.int .i64 t278) ∧ w'.cell? ⟨gb285, 1, none⟩ = some (.int .i64 t279) ∧ w'.cell? ⟨gb285, 2, none⟩ = some (.slice (some ⟨go18, 0, none⟩) x286002_1.length co24) ∧ w'.cell? ⟨gb285, 3, none⟩ = some (.int .i64 x286003_1) ∧ w'.cell? ⟨gb285, 4, none⟩ = some (.int .i64 x286004_1) ∧ w'.cell? ⟨go18, (x6_1).toNat * 7, none⟩ = some (.int .i64 ((rd_T88 y289 x6_1).f0)) ∧ w'.cell? ⟨go18, (x6_1).toNat * 7 + 1, none⟩ = some (.int .i64 ((rd_T88 y289 x6_1).f1)) ∧ w'.cell? ⟨go18, (x6_1).toNat * 7 + 2, none⟩ = some (.int .i64 ((rd_T88 y289 x6_1).f2)) ∧ w'.cell? ⟨go18, (x6_1).toNat * 7 + 3, none⟩ = some (.int .i64 ((rd_T88 y289 x6_1).f3)) ∧ w'.cell? ⟨go18, (x6_1).toNat * 7 + 4, none⟩ = some (.int .i64 ((rd_T88 y289 x6_1).f4)) ∧ w'.cell? ⟨go18, (x6_1).toNat * 7 + 5, none⟩ = some (.int .i64 ((rd_T88 y289 x6_1).f5)) ∧ w'.cell? ⟨go18, (x6_1).toNat * 7 + 6, none⟩ = some (.bool ((rd_T88 y289 x6_1).f6)) ∧ w'.cell? (ad287.add (x6_1).toNat) = some (.int .i64 (rd l1 x6_1))) (ds := [16]) #[false, false, false, false, false, false, false, false, false, false, false, false, false, false, false, false, false] (by kernel_rfl) rfl rfl ⟨(blk_cell BK285.out 0).trans rfl, (blk_cell BK285.out 1).trans rfl, (blk_cell BK285.out 2).trans rfl, (blk_cell BK285.out 3).trans rfl, (blk_cell BK285.out 4).trans rfl, hx290_0, hx290_1, hx290_2, hx290_3, hx290_4, hx290_5, hx290_6, (zw HB hw291_0)⟩ (fun hHeld => ?_); refine with_tabW spec_l26Held.tab7 spec_l26Held.bits7 (fun HT_ HW_ => ?_)
   generalize w27.drew = w28 at HO_286002 BK276 BK277 BK285 HB HQ26 hx290_0 hx290_1 hx290_2 hx290_3 hx290_4 hx290_5 hx290_6 hx291_0 hHeld ⊢
   refine pure_ (i := 0) (N := some 36) (v := ?_) (a' := ?_) #[true, false, false, false, false, false, false, false, false, false, false, false, false, false, false, false, false] rfl rfl (any_of HT_.out (by kernel_rfl)) (fun _ _ _ h => h) (Or.inl ⟨by rfl, ?_⟩) ?_ ?_; rotate_left; exact zy; rotate_left; exact zput
   refine pure_ (i := 2) (N := some 38) (v := ?_) (a' := ?_) #[true, false, true, false, false, false, false, false, false, false, false, false, false, false, false, false, false] rfl rfl (any_of HT_.out (by kernel_rfl)) (fun _ _ _ h => h) (Or.inl ⟨by rfl, ?_⟩) ?_ ?_; rotate_left; exact zy; rotate_left; exact zput
   refine pure_ (i := 3) (N := some 39) (v := ?_) (a' := ?_) #[true, false, true, true, false, false, false, false, false, false, false, false, false, false, false, false, false] rfl rfl (any_of HT_.out (by kernel_rfl)) (fun _ _ _ h => h) (Or.inl ⟨by rfl, ?_⟩) ?_ ?_; rotate_left; exact zy; rotate_left; exact zput
   refine pure_ (i := 5) (N := some 41) (v := ?_) (a' := ?_) #[true, false, true, true, false, true, false, false, false, false, false, false, false, false, false, false, false] rfl rfl (any_of HT_.out (by kernel_rfl)) (fun _ _ _ h => h) (Or.inl ⟨by rfl, ?_⟩) ?_ ?_; rotate_left; exact zy; rotate_left; exact zput
   refine pure_ (i := 9) (N := some 45) (v := ?_) (a' := ?_) #[true, false, true, true, false, true, false, false, false, true, false, false, false, false, false, false, false] rfl rfl (any_of HT_.out (by kernel_rfl)) (fun _ _ _ h => h) (Or.inl ⟨by rfl, ?_⟩) ?_ ?_; rotate_left; exact zy; rotate_left; exact zput
   refine pure_ (i := 10) (N := some 46) (v := ?_) (a' := ?_) #[true, false, true, true, false, true, false, false, false, true, true, false, false, false, false, false, false] rfl rfl (any_of HT_.out (by kernel_rfl)) (fun _ _ _ h => h) (Or.inl ⟨by rfl, ?_⟩) ?_ ?_; rotate_left; exact zy; rotate_left; exact zput
   refine pure_ (i := 11) (N := some 47) (v := ?_) (a' := ?_) #[true, false, true, true, false, true, false, false, false, true, true, true, false, false, false, false, false] rfl rfl (any_of HT_.out (by kernel_rfl)) (fun _ _ _ h => h) (Or.inl ⟨by rfl, ?_⟩) ?_ ?_; rotate_left; exact zy; rotate_left; exact zput
   refine take_ (i := 1) (N := some 37) (v := ?_) (a' := ?_) #[true, true, true, true, false, true, false, false, false, true, true, true, false, false, false, false, false] rfl rfl (take_ofW HT_.out HW_.out (by kernel_rfl)) (fun _ _ _ h => h) (Or.inl ⟨by rfl, ?_⟩) hHeld ?_ ?_; rotate_left; exact zt13; rotate_left; exact zput
   refine take_ (i := 4) (N := some 40) (v := ?_) (a' := ?_) #[true, true, true, true, true, true, false, false, false, true, true, true, false, false, false, false, false] rfl rfl (take_ofW HT_.out HW_.out (by kernel_rfl)) (fun _ _ _ h => h) (Or.inl ⟨by rfl, ?_⟩) hHeld ?_ ?_; rotate_left; exact zt13; rotate_left; exact zput
   refine pure_ (i := 6) (N := some 42) (v := ?_) (a' := ?_) #[true, true, true, true, true, true, true, false, false, true, true, true, false, false, false, false, false] rfl rfl (any_of HT_.out (by kernel_rfl)) (fun _ _ _ h => h) (Or.inl ⟨by rfl, ?_⟩) ?_ ?_; rotate_left; exact zy; rotate_left; exact zput
   refine pure_ (i := 7) (N := some 43) (v := ?_) (a' := ?_) #[true, true, true, true, true, true, true, true, false, true, true, true, false, false, false, false, false] rfl rfl (any_of HT_.out (by kernel_rfl)) (fun _ _ _ h => h) (Or.inl ⟨by rfl, ?_⟩) ?_ ?_; rotate_left; exact zy; rotate_left; exact zput
   refine take_ (i := 8) (N := some 44) (v := ?_) (a' := ?_) #[true, true, true, true, true, true, true, true, true, true, true, true, false, false, false, false, false] rfl rfl (take_ofW HT_.out HW_.out (by kernel_rfl)) (fun _ _ _ h => h) (Or.inl ⟨by rfl, ?_⟩) hHeld ?_ ?_; rotate_left; exact zt13; rotate_left; exact zput
   refine take_ (i := 12) (N := some 48) (v := ?_) (a' := ?_) #[true, true, true, true, true, true, true, true, true, true, true, true, true, false, false, false, false] rfl rfl (take_ofW HT_.out HW_.out (by kernel_rfl)) (fun _ _ _ h => h) (Or.inl ⟨by rfl, ?_⟩) hHeld ?_ ?_; rotate_left; exact zt13; rotate_left; exact zput
   refine one_ (i := 13) (N := some 49) #[true, true, true, true, true, true, true, true, true, true, true, true, true, true, false, false, false] rfl rfl (one_of HT_.out (by kernel_rfl)) (by decide) (fun K hK => ?_)
   refine goes_ Try.func53 (by kernel_rfl) rfl #[.int .i64 ((rd_T88 y289 x6_1).f5), .int .i64 (rd l1 x6_1)] (by rfl) rfl rfl zl ?_
   with_reducible refine (spec_l21Min.calls ((rd_T88 y289 x6_1).f5) (rd l1 x6_1) t292 _ A19.out).mono ?_
   rintro e w' ⟨rfl, ⟨nd, rfl⟩⟩
   refine ⟨_, rfl, ?_⟩
   have p20 : 0 ≤ (x6_1 : Int) := za
   have q20 : (x6_1 : Int) < ((x286002_1.length : Int) : Int) := za
   obtain ⟨ce20, hcl20, hM20, hcc20, hfr20⟩ := Kd.R_elem HO_286002.out z88 (x6_1 : Int) p20 q20
   obtain rfl := k88_openM hM20
   have hx20_0 : World.cell? _ ⟨go18, (x6_1 : Int).toNat * 7, none⟩ = some (.int .i64 ((rd_T88 y289 x6_1).f0)) := hcc20 0 _ rfl
   have hx20_1 : World.cell? _ ⟨go18, (x6_1 : Int).toNat * 7 + 1, none⟩ = some (.int .i64 ((rd_T88 y289 x6_1).f1)) := hcc20 1 _ rfl
   have hx20_2 : World.cell? _ ⟨go18, (x6_1 : Int).toNat * 7 + 2, none⟩ = some (.int .i64 ((rd_T88 y289 x6_1).f2)) := hcc20 2 _ rfl
   have hx20_3 : World.cell? _ ⟨go18, (x6_1 : Int).toNat * 7 + 3, none⟩ = some (.int .i64 ((rd_T88 y289 x6_1).f3)) := hcc20 3 _ rfl
   have hx20_4 : World.cell? _ ⟨go18, (x6_1 : Int).toNat * 7 + 4, none⟩ = some (.int .i64 ((rd_T88 y289 x6_1).f4)) := hcc20 4 _ rfl
   have hx20_5 : World.cell? _ ⟨go18, (x6_1 : Int).toNat * 7 + 5, none⟩ = some (.int .i64 ((rd_T88 y289 x6_1).f5)) := hcc20 5 _ rfl
   have hx20_6 : World.cell? _ ⟨go18, (x6_1 : Int).toNat * 7 + 6, none⟩ = some (.bool ((rd_T88 y289 x6_1).f6)) := hcc20 6 _ rfl
   have hf20_0 : World.frozen? _ ⟨go18, (x6_1 : Int).toNat * 7, none⟩ = false := hfr20 0
   have hf20_1 : World.frozen? _ ⟨go18, (x6_1 : Int).toNat * 7 + 1, none⟩ = false := hfr20 1
   have hf20_2 : World.frozen? _ ⟨go18, (x6_1 : Int).toNat * 7 + 2, none⟩ = false := hfr20 2
   have hf20_3 : World.frozen? _ ⟨go18, (x6_1 : Int).toNat * 7 + 3, none⟩ = false := hfr20 3
   have hf20_4 : World.frozen? _ ⟨go18, (x6_1 : Int).toNat * 7 + 4, none⟩ = false := hfr20 4
   have hf20_5 : World.frozen? _ ⟨go18, (x6_1 : Int).toNat * 7 + 5, none⟩ = false := hfr20 5
   have hf20_6 : World.frozen? _ ⟨go18, (x6_1 : Int).toNat * 7 + 6, none⟩ = false := hfr20 6
   clear hcl20 hcc20 hfr20 hM20
   replace p20 := eq_true p20
   replace q20 := eq_true q20
   obtain ⟨ce29, hcl29, hM29, hcc29, hfr29⟩ := Kd.R_elem HO_286002.out z88 (x6_1 : Int) (za) (by have h_ : (x6_1 : Int) < ((x286002_1.length : Int) : Int) := za; first | exact h_ | (have e_ := (Kd.R_reads' HO_286002.out).1; omega) | simpa using h_)
   obtain rfl := k88_openM hM29
   have HP29 := (Kd.R_seg HO_286002.out (x6_1 : Int) (za) (by have h_ : (x6_1 : Int) < ((x286002_1.length : Int) : Int) := za; first | exact h_ | (have e_ := (Kd.R_reads' HO_286002.out).1; omega) | simpa using h_) (seg := [.int .i64 t292]) (j := 5) hcl29 hcc29 (show 6 ≤ 7 from by decide) (x' := (⟨(rd_T88 y289 x6_1).f0, (rd_T88 y289 x6_1).f1, (rd_T88 y289 x6_1).f2, (rd_T88 y289 x6_1).f3, (rd_T88 y289 x6_1).f4, t292, (rd_T88 y289 x6_1).f6⟩ : S88)) (k88_mkM _ _ _ (⟨(rd_T88 y289 x6_1).f0, (rd_T88 y289 x6_1).f1, (rd_T88 y289 x6_1).f2, (rd_T88 y289 x6_1).f3, (rd_T88 y289 x6_1).f4, t292, (rd_T88 y289 x6_1).f6⟩ : S88) ) (fun _ hk => hk)).1
   rw [← Ny293.out] at HP29
   have HQ29 := Aside0.mk HP29
   clear hcl29 hcc29 hfr29 hM29 HP29
   refine hK.out _ _ ⟨(blk_cell BK285.out 0).trans rfl, (blk_cell BK285.out 1).trans rfl, (blk_cell BK285.out 2).trans rfl, (blk_cell BK285.out 3).trans rfl, (blk_cell BK285.out 4).trans rfl, hHeld.2.2.2.2.2.1, hHeld.2.2.2.2.2.2.1, hHeld.2.2.2.2.2.2.2.1, hHeld.2.2.2.2.2.2.2.2.1, hHeld.2.2.2.2.2.2.2.2.2.1, hHeld.2.2.2.2.2.2.2.2.2.2.1, hHeld.2.2.2.2.2.2.2.2.2.2.2.1, (zw HB hw291_0)⟩ (fun hHeld => ?_)
   clear hK K
   refine norm_ (a' := ?_) ?_ ?_
   rotate_left
   ·show Act.put _ (some 49) _ = _
    simp only [Act.put, List.setIfInBounds_toArray, List.set_cons_zero, List.set_cons_succ, i64_w, i32_w]
    rfl
   refine pure_ (i := 14) (N := some 50) (v := ?_) (a' := ?_) #[true, true, true, true, true, true, true, true, true, true, true, true, true, true, true, false, false] rfl rfl (any_of HT_.out (by kernel_rfl)) (fun _ _ _ h => h) (Or.inl ⟨by rfl, ?_⟩) ?_ ?_; rotate_left; exact zy; rotate_left; exact zput
   refine pure_ (i := 15) (N := some 51) (v := ?_) (a' := ?_) #[true, true, true, true, true, true, true, true, true, true, true, true, true, true, true, true, false] rfl rfl (any_of HT_.out (by kernel_rfl)) (fun _ _ _ h => h) (Or.inl ⟨by rfl, ?_⟩) ?_ ?_; rotate_left; exact zy; rotate_left; exact zput
   refine last_ (i := 16) (N := none) #[true, true, true, true, true, true, true, true, true, true, true, true, true, true, true, true, true] rfl rfl (one_of HT_.out (by kernel_rfl)) (by decide) (fun K hK => ?_)
   refine skip_ (w1 := ?_) (by rfl) rfl ?_ ?_
   rotate_left
   ·go_simp
    rfl
   refine hK.out _ _ ?_
   clear hK K
   refine done_ (done_of HT_.out (by kernel_rfl)) ?_
   try go_wp2
   go_roundg k1
   case measure => have := HK1.out; omega
   case rel => exact ⟨(wrap64 (x6_1 + 1)), (y293), (x286003_1), (x286004_1), (.slice (some ⟨go18, 0, none⟩) x286002_1.length co24), zi, H', ⟨by have := HK1.out; omega⟩, ⟨zr HQ29⟩, ⟨by (with_reducible repeat (first | refine blk_drewN ?_ _ | refine blk_drew ?_ | refine blk_alloc ?_ _)); refine blk_far ?_ (by have h_ := Kd.R_ne HO_286002.out BK276.out (by decide); intro e_; exact h_ (by rw [e_]; rfl)) _; (with_reducible repeat (first | refine blk_drewN ?_ _ | refine blk_drew ?_ | refine blk_alloc ?_ _)); exact BK276.out⟩, ⟨by (with_reducible repeat (first | refine blk_drewN ?_ _ | refine blk_drew ?_ | refine blk_alloc ?_ _)); refine blk_far ?_ (by have h_ := Kd.R_ne HO_286002.out BK277.out (by decide); intro e_; exact h_ (by rw [e_]; rfl)) _; (with_reducible repeat (first | refine blk_drewN ?_ _ | refine blk_drew ?_ | refine blk_alloc ?_ _)); exact BK277.out⟩, ⟨by (with_reducible repeat (first | refine blk_drewN ?_ _ | refine blk_drew ?_ | refine blk_alloc ?_ _)); refine blk_far ?_ (by have h_ := Kd.R_ne HO_286002.out BK285.out (by decide); intro e_; exact h_ (by rw [e_]; rfl)) _; (with_reducible repeat (first | refine blk_drewN ?_ _ | refine blk_drew ?_ | refine blk_alloc ?_ _)); exact BK285.out⟩, ⟨by repeat (first | (with_reducible first | exact HB.out | apply below_alloc | apply pw_below_drewN | apply below_drew1 | refine below_set ?_ GB18.out | refine below_set ?_ GE276.out | refine below_set ?_ GE277.out | refine below_set ?_ GE285.out) | exact HB.out)⟩⟩
end Go.Proofs.Ytidenmcoilmbcaa.QFnExactFlyNext
