/- The walk of what the law FnSkyLegs reaches: laid by a program of this session (ownprint.py). -/
import Derived.Test.YtaeichaofhcheaaQFnSkyLegsx0
import Derived.Test.YtaeichaofhcheaaQFnSkyLegsx1
import Derived.Test.YtaeichaofhcheaaQFnSkyLegsx2
import Derived.Test.YtaeichaofhcheaaQFnSkyLegsx4
import Derived.Test.YtaeichaofhcheaaQFnSkyLegsx5
import Derived.Test.YtaeichaofhcheaaQFnSkyLegsx6
import Derived.Test.YtaeichaofhcheaaQFnSkyLegsx7
namespace Go.Proofs.Ytaeichaofhcheaa.QFnSkyLegs
open Go.RowKit Go.Proofs.YtaeichaofhcheaaW.PrintWords Go.Proofs.YtaeichaofhcheaaW.PrintLast Go.Proofs.YtaeichaofhcheaaW.PrintMore Go.Proofs.Ytaeichaofhcheaa.Z
attribute [local go_sem] max2_int min2_int max_two min_two max_three min_three max_four min_four zdn   -- for this text's walks alone
set_option linter.unusedVariables false
set_option linter.unusedSimpArgs false
attribute [local go_sem high] eqA24
mutual
def laws_FnSkyLegs.j0 : Nat → List (S24) → List (S24) → Bool → Int → Int → Int → Int → Option (Bool)
 | 0, _, _, _, _, _, _, _ => none
 | k + 1, x5, x6, x36, x202000, x202001, x203000, x203001 => if x36 = true then (some false) else (laws_FnSkyLegs.l0 k x5 x6 0 x202000 x202001 x203000 x203001)
def laws_FnSkyLegs.l0 : Nat → List (S24) → List (S24) → Int → Int → Int → Int → Int → Option (Bool)
 | 0, _, _, _, _, _, _, _ => none
 | k + 1, x5, x6, x7, x202000, x202001, x203000, x203001 => if x7 < (x5.length : Int) then (if 0 ≤ x7 then (if 0 ≤ (wrap64 ((wrap64 ((x5.length : Int) - 1)) - x7)) then (if (wrap64 ((wrap64 ((x5.length : Int) - 1)) - x7)) < (x6.length : Int) then (if (!(((rd_T24 x5 x7).f0) == ((rd_T24 x6 (wrap64 ((wrap64 ((x5.length : Int) - 1)) - x7))).f0)) || (!(((rd_T24 x5 x7).f1) == ((rd_T24 x6 (wrap64 ((wrap64 ((x5.length : Int) - 1)) - x7))).f1)))) = true then (some false) else (laws_FnSkyLegs.l0 k x5 x6 (wrap64 (x7 + 1)) x202000 x202001 x203000 x203001)) else (none)) else (none)) else (none)) else (if (x5.length : Int) = 0 then (if x202000 < 0 then (some true) else (if x202001 < 0 then (some true) else (if x203000 < 0 then (some true) else (if x203001 < 0 then (some true) else (if x202000 ≥ 16 then (some true) else (if x202001 ≥ 16 then (some true) else (if x203000 ≥ 16 then (some true) else (some (decide (x203001 ≥ 16)))))))))) else (if (wrap64 ((x5.length : Int) - 1)) > 0 then ((laws_wmMost.f x202000 x202001 x203000 x203001).bind fun t215 => (if t215 = (wrap64 ((x5.length : Int) - 1)) then (if 0 < (x5.length : Int) then (if (!(((rd_T24 x5 0).f0) == x202000) || (!(((rd_T24 x5 0).f1) == x202001))) = true then (laws_FnSkyLegs.j2 k x5 (wrap64 ((x5.length : Int) - 1)) true x202000 x202001 x203000 x203001) else (if 0 ≤ (wrap64 ((x5.length : Int) - 1)) then (if (wrap64 ((x5.length : Int) - 1)) < (x5.length : Int) then (laws_FnSkyLegs.j2 k x5 (wrap64 ((x5.length : Int) - 1)) (!(((rd_T24 x5 (wrap64 ((x5.length : Int) - 1))).f0) == x203000) || (!(((rd_T24 x5 (wrap64 ((x5.length : Int) - 1))).f1) == x203001))) x202000 x202001 x203000 x203001) else (none)) else (none))) else (none)) else (laws_FnSkyLegs.j2 k x5 (wrap64 ((x5.length : Int) - 1)) true x202000 x202001 x203000 x203001))) else (if 0 < (x5.length : Int) then (if (!(((rd_T24 x5 0).f0) == x202000) || (!(((rd_T24 x5 0).f1) == x202001))) = true then (laws_FnSkyLegs.j2 k x5 (wrap64 ((x5.length : Int) - 1)) true x202000 x202001 x203000 x203001) else (if 0 ≤ (wrap64 ((x5.length : Int) - 1)) then (if (wrap64 ((x5.length : Int) - 1)) < (x5.length : Int) then (laws_FnSkyLegs.j2 k x5 (wrap64 ((x5.length : Int) - 1)) (!(((rd_T24 x5 (wrap64 ((x5.length : Int) - 1))).f0) == x203000) || (!(((rd_T24 x5 (wrap64 ((x5.length : Int) - 1))).f1) == x203001))) x202000 x202001 x203000 x203001) else (none)) else (none))) else (none))))
def laws_FnSkyLegs.j2 : Nat → List (S24) → Int → Bool → Int → Int → Int → Int → Option (Bool)
 | 0, _, _, _, _, _, _, _ => none
 | k + 1, x5, x8, x123, x202000, x202001, x203000, x203001 => if x123 = true then (some false) else (laws_FnSkyLegs.l1 k x5 x8 1 x202000 x202001 x203000 x203001)
def laws_FnSkyLegs.l1 : Nat → List (S24) → Int → Int → Int → Int → Int → Int → Option (Bool)
 | 0, _, _, _, _, _, _, _ => none
 | k + 1, x5, x8, x9, x202000, x202001, x203000, x203001 => if x9 ≤ x8 then (if 0 ≤ (wrap64 (x9 - 1)) then (if (wrap64 (x9 - 1)) < (x5.length : Int) then (if 0 ≤ x9 then (if x9 < (x5.length : Int) then ((laws_wmMost.f ((rd_T24 x5 (wrap64 (x9 - 1))).f0) ((rd_T24 x5 (wrap64 (x9 - 1))).f1) ((rd_T24 x5 x9).f0) ((rd_T24 x5 x9).f1)).bind fun t222 => (if t222 = 1 then ((laws_wmAbs.f (wrap64 ((wrap64 ((wrap64 (2 * x8)) * (wrap64 (((rd_T24 x5 x9).f0) - x202000)))) - (wrap64 ((wrap64 (2 * x9)) * (wrap64 (x203000 - x202000))))))).bind fun t224 => (if t224 > x8 then (some false) else ((laws_wmAbs.f (wrap64 ((wrap64 ((wrap64 (2 * x8)) * (wrap64 (((rd_T24 x5 x9).f1) - x202001)))) - (wrap64 ((wrap64 (2 * x9)) * (wrap64 (x203001 - x202001))))))).bind fun t226 => (if t226 > x8 then (some false) else (laws_FnSkyLegs.l1 k x5 x8 (wrap64 (x9 + 1)) x202000 x202001 x203000 x203001))))) else (some false))) else (none)) else (none)) else (none)) else (none)) else (some true)
end
def laws_FnSkyLegs.f (k : Nat) (l0 : List Int) : Option (Bool) := if (l0.length : Int) > 1048576 then (some true) else ((spec_DrawSkyLeg.f k l0).bind fun bt197 => ((impl_SkyLeg.f k bt197.1 bt197.2.1 bt197.2.2.1 bt197.2.2.2).bind fun t203 => ((impl_SkyLeg.f k bt197.2.2.1 bt197.2.2.2 bt197.1 bt197.2.1).bind fun t206 => ((spec_SkyLeg.f k bt197.1 bt197.2.1 bt197.2.2.1 bt197.2.2.2).bind fun t209 => ((laws_wmCells.f k t203 t209).bind fun t212 => (if t212 = true then (laws_FnSkyLegs.j0 k t203 t206 ((t203.length : Int) != (t206.length : Int)) bt197.1 bt197.2.1 bt197.2.2.1 bt197.2.2.2) else (laws_FnSkyLegs.j0 k t203 t206 true bt197.1 bt197.2.1 bt197.2.2.1 bt197.2.2.2)))))))
def laws_FnSkyLegs.T11 : Bool × List (List Nat × List Nat) := (true, [([], []), ([], []), ([0, 1], [0, 1]), ([2], [2]), ([], []), ([], []), ([5], [5]), ([6], [6]), ([], []), ([7, 8], [7, 8]), ([4, 9], [4, 9]), ([10], [10]), ([3, 11], [3, 11])])
def laws_FnSkyLegs.B11 : List Nat := [0, 0, 3, 7, 0, 0, 32, 96, 0, 480, 1008, 2032, 4095]
theorem laws_FnSkyLegs.tab11 : rtab .any (opsOf Try.f3 11) = laws_FnSkyLegs.T11 := by kernel_rfl
theorem laws_FnSkyLegs.bits11 : waitsOk laws_FnSkyLegs.T11.2 laws_FnSkyLegs.B11 = true := by kernel_rfl
def laws_FnSkyLegs.T16 : Bool × List (List Nat × List Nat) := (true, [([], []), ([0], [0]), ([1], [1]), ([2], [2]), ([2], [2]), ([3, 4, 2, 2], [2, 3, 4]), ([2], [2]), ([5, 6, 2], [2, 5, 6]), ([2, 7], [2, 7]), ([8, 5], [8]), ([9], [9]), ([10, 9], [9, 10]), ([11, 9], [9, 11]), ([9], [9]), ([12, 13, 9], [9, 12, 13]), ([9, 14], [9, 14]), ([15, 9], [15]), ([16], [16]), ([16], [16]), ([17, 18, 16], [16, 17, 18]), ([19, 16], [16, 19]), ([16], [16]), ([20, 21, 16], [16, 20, 21]), ([16, 22], [16, 22])])
def laws_FnSkyLegs.B16 : List Nat := [0, 1, 3, 7, 7, 31, 7, 127, 255, 511, 1023, 2047, 4095, 1023, 16383, 32767, 65535, 131071, 131071, 524287, 1048575, 131071, 4194303, 8388607]
theorem laws_FnSkyLegs.tab16 : rtab .any (opsOf Try.f3 16) = laws_FnSkyLegs.T16 := by kernel_rfl
theorem laws_FnSkyLegs.bits16 : waitsOk laws_FnSkyLegs.T16.2 laws_FnSkyLegs.B16 = true := by kernel_rfl
def laws_FnSkyLegs.T21 : Bool × List (List Nat × List Nat) := (true, [([], []), ([], []), ([1], [1]), ([0, 2], [0, 2]), ([3], [3]), ([], []), ([], []), ([5, 6], [5, 6]), ([7], [7]), ([4, 8], [4, 8]), ([9], [9]), ([10, 9], [10]), ([11], [11]), ([12, 11], [11, 12]), ([11], [11]), ([11], [11]), ([14, 15, 11], [11, 14, 15]), ([16, 11], [11, 16]), ([17, 11], [11, 17]), ([11], [11]), ([19, 11], [11, 19]), ([18, 20, 11], [11, 18, 20]), ([13, 21, 11], [11, 13, 21]), ([11], [11]), ([23, 11], [11, 23]), ([11], [11]), ([25, 11], [11, 25]), ([11], [11]), ([27, 11], [11, 27]), ([26, 28, 11], [11, 26, 28]), ([24, 29, 11], [11, 24, 29]), ([22, 30, 11], [11, 22, 30]), ([31, 11, 11], [11, 31]), ([11], [11]), ([32, 33, 11], [11, 32, 33]), ([11, 34], [11, 34]), ([35, 32], [35]), ([36], [36]), ([37, 36], [36, 37]), ([36], [36]), ([36], [36]), ([39, 40, 36], [36, 39, 40]), ([41, 36], [36, 41]), ([42, 36], [36, 42]), ([36], [36]), ([44, 36], [36, 44]), ([43, 45, 36], [36, 43, 45]), ([38, 46, 36], [36, 38, 46]), ([36], [36]), ([48, 36], [36, 48]), ([36], [36]), ([50, 36], [36, 50]), ([36], [36]), ([52, 36], [36, 52]), ([51, 53, 36], [36, 51, 53]), ([49, 54, 36], [36, 49, 54]), ([47, 55, 36], [36, 47, 55]), ([56, 36, 36], [36, 56]), ([36], [36]), ([57, 58, 36], [36, 57, 58]), ([36, 59], [36, 59])])
def laws_FnSkyLegs.B21 : List Nat := [0, 0, 2, 7, 15, 0, 0, 96, 224, 511, 1023, 2047, 4095, 8191, 4095, 4095, 53247, 118783, 249855, 4095, 528383, 2084863, 4194303, 4095, 8392703, 4095, 33558527, 4095, 134221823, 503320575, 1065357311, 2147483647, 4294967295, 4095, 17179869183, 34359738367, 68719476735, 137438953471, 274877906943, 137438953471, 137438953471, 1786706395135, 3985729650687, 8383776161791, 137438953471, 17729624997887, 69956427317247, 140737488355327, 137438953471, 281612415664127, 137438953471, 1126037345796095, 137438953471, 4503737066323967, 16888636041592831, 35747459481206783, 72057594037927935, 144115188075855871, 137438953471, 576460752303423487, 1152921504606846975]
theorem laws_FnSkyLegs.tab21 : rtab .any (opsOf Try.f3 21) = laws_FnSkyLegs.T21 := by kernel_rfl
theorem laws_FnSkyLegs.bits21 : waitsOk laws_FnSkyLegs.T21.2 laws_FnSkyLegs.B21 = true := by kernel_rfl
set_option maxHeartbeats 8000000 in
set_option maxRecDepth 100000 in
theorem laws_FnSkyLegs.calls (k : Nat) (A0 : Option Addr) (c0 : Nat) (l0 : List Int) (r : Bool) (w : World) (hr0 : Kd.C (Kd.int .u8) w A0 l0.length l0) (hc0 : l0.length ≤ c0) (h : laws_FnSkyLegs.f k l0 = some r) :
 Calls Try.prog 3 #[.slice A0 l0.length c0] w fun e w' => e = .returned (.bool r) ∧ Below w.heap.size w w' := by
 have hu24 := Try.underlying24
 have HR0 := zA hr0
 have HC0 := zA hc0
 clear hr0 hc0
 have HB := zA (Below.refl w.heap.size w)
 have H : (if (l0.length : Int) > 1048576 then (some true) else ((spec_DrawSkyLeg.f k l0).bind fun bt197 => ((impl_SkyLeg.f k bt197.1 bt197.2.1 bt197.2.2.1 bt197.2.2.2).bind fun t203 => ((impl_SkyLeg.f k bt197.2.2.1 bt197.2.2.2 bt197.1 bt197.2.1).bind fun t206 => ((spec_SkyLeg.f k bt197.1 bt197.2.1 bt197.2.2.1 bt197.2.2.2).bind fun t209 => ((laws_wmCells.f k t203 t209).bind fun t212 => (if t212 = true then (laws_FnSkyLegs.j0 k t203 t206 ((t203.length : Int) != (t206.length : Int)) bt197.1 bt197.2.1 bt197.2.2.1 bt197.2.2.2) else (laws_FnSkyLegs.j0 k t203 t206 true bt197.1 bt197.2.1 bt197.2.2.1 bt197.2.2.2)))))))) = some r := h
 clear h
 by_cases c2 : (l0.length : Int) > 1048576
 ·rw [if_pos c2] at H
  have c2b0 : decide (1048576 < (l0.length : Int)) = true := decide_eq_true c2
  have c2b1 : decide (1048576 < l0.length) = true := decide_eq_true (by omega)
  clear c2
  obtain rfl := Option.some.inj H
  go_enter Try.func3, Try.ntmps3
  go_wp2
  go_ret
  exact ⟨ze, zs0 HB⟩
 rw [if_neg c2] at H
 have c2b0 : decide (1048576 < (l0.length : Int)) = false := decide_eq_false c2
 have c2b1 : decide (1048576 < l0.length) = false := decide_eq_false (by omega)
 clear c2
 replace H := Option.bind_eq_some_iff.mp H
 obtain ⟨⟨t197, t198, t199, t200⟩, A30, H⟩ := H
 replace H : ((impl_SkyLeg.f k t197 t198 t199 t200).bind fun t203 => ((impl_SkyLeg.f k t199 t200 t197 t198).bind fun t206 => ((spec_SkyLeg.f k t197 t198 t199 t200).bind fun t209 => ((laws_wmCells.f k t203 t209).bind fun t212 => (if t212 = true then (laws_FnSkyLegs.j0 k t203 t206 ((t203.length : Int) != (t206.length : Int)) t197 t198 t199 t200) else (laws_FnSkyLegs.j0 k t203 t206 true t197 t198 t199 t200)))))) = some r := H
 have A3 := zA A30
 clear A30
 replace H := zbd H; obtain ⟨t203, A4, H⟩ := H
 replace H := Option.bind_eq_some_iff.mp H
 obtain ⟨t206, A50, H⟩ := H
 replace H : ((spec_SkyLeg.f k t197 t198 t199 t200).bind fun t209 => ((laws_wmCells.f k t203 t209).bind fun t212 => (if t212 = true then (laws_FnSkyLegs.j0 k t203 t206 ((t203.length : Int) != (t206.length : Int)) t197 t198 t199 t200) else (laws_FnSkyLegs.j0 k t203 t206 true t197 t198 t199 t200)))) = some r := H
 have A5 := zA A50
 clear A50
 have HC6 := zA H
 clear H
 go_enter Try.func3, Try.ntmps3
 go_upto_region 6 with (first | ((with_reducible refine gate_callee (f := 4) rfl ?_); refine zgl (N := some 15) Try.func4 #[.slice A0 l0.length c0] ?_; (with_reducible refine (spec_DrawSkyLeg.calls k _ _ l0 t197 t198 t199 t200 _ ?side1 ?side2 A3.out).mono ?_); (case side1 => repeat (first | exact HR0.out | (with_reducible refine Kd.C_alloc ?_ _) | (with_reducible refine Kd.C_drewN ?_ _) | (with_reducible refine Kd.C_drew ?_))); (case side2 => exact HC0.out); rintro e w7 ⟨rfl, hb⟩; refine ⟨_, rfl, ?_⟩; replace HB := zE (zs0 HB) hb; (try clear hb); (try clear hb2); (try clear hk); (try clear hi)) | ((with_reducible refine gate_dst (N := 3) rfl ?_); (try (refine gate_guard (by rfl) ?_; dsimp only)); refine zbx 3 #[.int .i64 0, .int .i64 0] 24 ?_; intro gb201 hg w8 hbox hb; have BK201 := zA hbox; have GW201 := zgs hg (zs0 HB); have GE201 := zgs hg (zs0 HB); replace HB := zE (zs0 HB) hb; clear hb hbox hg) | ((with_reducible refine gate_dst (N := 4) rfl ?_); (try (refine gate_guard (by rfl) ?_; dsimp only)); refine zbx 4 #[.int .i64 0, .int .i64 0] 24 ?_; intro gb202 hg w9 hbox hb; have BK202 := zA hbox; have GW202 := zgs hg (zs1 HB GE201); have GE202 := zgs hg (zs1 HB GE201); have NB201_202 := zne hg BK201; have NB202_201 := znf hg BK201; replace BK201 := zb BK201 hb; replace HB := zE (zs1 HB GE201) hb; clear hb hbox hg; have hnb10 := NB201_202.out; have hnc10 := NB202_201.out; obtain ⟨hcz11_0, hcz11_1⟩ := zd2 BK201; obtain ⟨hfz11_0, hfz11_1⟩ := zn2 BK201; obtain ⟨hcz12_0, hcz12_1⟩ := zd2 BK202; obtain ⟨hfz12_0, hfz12_1⟩ := zn2 BK202) | ((with_reducible refine gate_callee (f := 5) rfl ?_); refine zgl (N := some 20) Try.func5 #[.agg #[.int .i64 t197, .int .i64 t198], .agg #[.int .i64 t199, .int .i64 t200]] ?_; (with_reducible refine (impl_SkyLeg.calls k t197 t198 t199 t200 t203 _ A4.out).mono ?_); rintro e w13 ⟨v204, rfl, ho0, hb⟩; refine ⟨_, rfl, ?_⟩; have HO205 := zA (Kd.R_lower (Kd.R_newB (Kd.R_newB ho0 (g := gb201) (o := .cells #[.int .i64 t197, .int .i64 t198] 24 (0, 0)) (zpf BK201 NB201_202)) (g := gb202) (o := .cells #[.int .i64 t199, .int .i64 t200] 24 (0, 0)) (zpf BK202 NB202_201)) (below_size (zs2 HB GE201 GE202))); replace BK201 := zA (blk_below (g := gb201) (o := .cells #[.int .i64 t197, .int .i64 t198] 24 (0, 0)) (zpf BK201 NB201_202) hb); replace BK202 := zA (blk_below (g := gb202) (o := .cells #[.int .i64 t199, .int .i64 t200] 24 (0, 0)) (zpf BK202 NB202_201) hb); replace HB := zE (zs2 HB GE201 GE202) hb; (try clear hb); (try clear hb2); (try clear hk); (try clear hi); (try clear ho0); obtain ⟨hcz14_0, hcz14_1⟩ := zd2 BK202; obtain ⟨hfz14_0, hfz14_1⟩ := zn2 BK202; obtain ⟨hcz15_0, hcz15_1⟩ := zd2 BK201; obtain ⟨hfz15_0, hfz15_1⟩ := zn2 BK201) | ((with_reducible refine gate_callee (f := 5) rfl ?_); refine zgl (N := some 23) Try.func5 #[.agg #[.int .i64 t199, .int .i64 t200], .agg #[.int .i64 t197, .int .i64 t198]] ?_; (with_reducible refine (impl_SkyLeg.calls k t199 t200 t197 t198 t206 _ A5.out).mono ?_); rintro e w16 ⟨v207, rfl, ho0, hb⟩; refine ⟨_, rfl, ?_⟩; have HO208 := zA (Kd.R_lower (Kd.R_newB (Kd.R_newB (Kd.R_new' ho0 (Kd.R_lt (zr HO205))) (g := gb201) (o := .cells #[.int .i64 t197, .int .i64 t198] 24 (0, 0)) (zh BK201)) (g := gb202) (o := .cells #[.int .i64 t199, .int .i64 t200] 24 (0, 0)) (zh BK202)) (below_size (zs2 HB GE201 GE202))); replace HO205 := zA (Kd.R_elder' (zr HO205) (Kd.R_base ho0) hb); replace BK201 := zb BK201 hb; replace BK202 := zb BK202 hb; replace HB := zE (zs2 HB GE201 GE202) hb; (try clear hb); (try clear hb2); (try clear hk); (try clear hi); (try clear ho0)))
 (try simp only [Act.put, List.setIfInBounds_toArray, List.set_cons_zero, List.set_cons_succ])
 go_cut [36] (fun v36 wc => ∃ (kq : Nat) (x36_5 : Bool), v36 = .bool x36_5 ∧ Aside0 (laws_FnSkyLegs.j0 kq t203 t206 x36_5 t197 t198 t199 t200 = some r) ∧ Aside0 (kq ≤ k) ∧ Aside0 (Kd.R k24 24 wc w.heap.size (fun k_ => some k_ ≠ (v207 : Value).ownBlock ∧ k_ ≠ gb201 ∧ k_ ≠ gb202) v204 t203) ∧ Aside0 (Kd.R k24 24 wc w.heap.size (fun k_ => some k_ ≠ (v204 : Value).ownBlock ∧ k_ ≠ gb201 ∧ k_ ≠ gb202) v207 t206) ∧ Aside0 (wc.heap[gb201]? = some (.cells #[.int .i64 t197, .int .i64 t198] 24 (0, 0))) ∧ Aside0 (wc.heap[gb202]? = some (.cells #[.int .i64 t199, .int .i64 t200] 24 (0, 0))) ∧ Aside0 (Below w.heap.size w wc))
 case first =>
  have H := HC6.out
  clear HC6
  replace H := zbd H; obtain ⟨t209, A17, H⟩ := H
  replace H := Option.bind_eq_some_iff.mp H
  obtain ⟨t212, A180, H⟩ := H
  replace H : (if t212 = true then (laws_FnSkyLegs.j0 k t203 t206 ((t203.length : Int) != (t206.length : Int)) t197 t198 t199 t200) else (laws_FnSkyLegs.j0 k t203 t206 true t197 t198 t199 t200)) = some r := H
  have A18 := zA A180
  clear A180
  by_cases c19 : t212 = true
  rotate_left
  ·replace c19 := Bool.eq_false_iff.mpr c19
   subst c19
   have H1 : (laws_FnSkyLegs.j0 k t203 t206 true t197 t198 t199 t200) = some r := by rw [if_neg (show ¬ (false = true) by decide)] at H; exact H
   clear H
   have H := H1
   clear H1
   have H' := zA H
   clear H
   have hnb27 := NB201_202.out
   have hnc27 := NB202_201.out
   obtain ⟨hcz28_0, hcz28_1⟩ := zd2 BK201
   obtain ⟨hfz28_0, hfz28_1⟩ := zn2 BK201
   obtain ⟨hcz29_0, hcz29_1⟩ := zd2 BK202
   obtain ⟨hfz29_0, hfz29_1⟩ := zn2 BK202
   go_wp2_with (first | ((with_reducible refine gate_callee (f := 7) rfl ?_); refine zgl (N := some 27) Try.func7 #[.agg #[.int .i64 t197, .int .i64 t198], .agg #[.int .i64 t199, .int .i64 t200]] ?_; (with_reducible refine (spec_SkyLeg.calls k t197 t198 t199 t200 t209 _ A17.out).mono ?_); rintro e w30 ⟨v210, rfl, ho0, hb⟩; refine ⟨_, rfl, ?_⟩; have HO211 := zA (Kd.R_lower (Kd.R_newB (Kd.R_newB (Kd.R_new' (Kd.R_new' ho0 (Kd.R_lt (zr HO205))) (Kd.R_lt (zr HO208))) (g := gb201) (o := .cells #[.int .i64 t197, .int .i64 t198] 24 (0, 0)) (zh BK201)) (g := gb202) (o := .cells #[.int .i64 t199, .int .i64 t200] 24 (0, 0)) (zh BK202)) (below_size (zs2 HB GE201 GE202))); replace HO205 := zA (Kd.R_elder' (zr HO205) (Kd.R_base ho0) hb); replace HO208 := zA (Kd.R_elder' (zr HO208) (Kd.R_base ho0) hb); replace BK201 := zb BK201 hb; replace BK202 := zb BK202 hb; replace HB := zE (zs2 HB GE201 GE202) hb; (try clear hb); (try clear hb2); (try clear hk); (try clear hi); (try clear ho0); obtain ⟨Ao31, co31, eo31⟩ := Kd.R_slice HO205.out; subst eo31; obtain ⟨Ao32, co32, eo32⟩ := Kd.R_slice HO211.out; subst eo32) | ((with_reducible refine gate_callee (f := 6) rfl ?_); refine zgl (N := some 28) Try.func6 #[.slice Ao31 t203.length co31, .slice Ao32 t209.length co32] ?_; (with_reducible refine (laws_wmCells.calls k _ _ t203 _ _ t209 false _ ?side1 ?side2 ?side3 ?side4 A18.out).mono ?_); (case side1 => repeat (first | exact (Kd.R_reads' HO205.out).2.2 | (with_reducible refine Kd.C_alloc ?_ _) | (with_reducible refine Kd.C_drewN ?_ _) | (with_reducible refine Kd.C_drew ?_))); (case side2 => exact (Kd.R_reads' HO205.out).2.1); (case side3 => repeat (first | exact (Kd.R_reads' HO211.out).2.2 | (with_reducible refine Kd.C_alloc ?_ _) | (with_reducible refine Kd.C_drewN ?_ _) | (with_reducible refine Kd.C_drew ?_))); (case side4 => exact (Kd.R_reads' HO211.out).2.1); rintro e w' ⟨rfl, ⟨nd, rfl⟩⟩; refine ⟨_, rfl, ?_⟩))
   go_meet
   case rel => exact ⟨_, (true), zi, H', ⟨by first | omega | exact Nat.le_refl _⟩, ⟨by (with_reducible repeat (first | apply Kd.R_alloc | apply Kd.R_drewN | apply Kd.R_drew)); exact Kd.R_mono HO205.out (fun _ hk => ⟨hk.1.2, ⟨hk.1.1.1.2, hk.1.1.2⟩⟩)⟩, ⟨by (with_reducible repeat (first | apply Kd.R_alloc | apply Kd.R_drewN | apply Kd.R_drew)); exact Kd.R_mono HO208.out (fun _ hk => ⟨hk.1.1.1.2, ⟨hk.1.1.2, hk.1.2⟩⟩)⟩, ⟨zh BK201⟩, ⟨zh BK202⟩, ⟨zs2 HB GE201 GE202⟩⟩
  subst c19
  have H1 : (laws_FnSkyLegs.j0 k t203 t206 ((t203.length : Int) != (t206.length : Int)) t197 t198 t199 t200) = some r := by rw [if_pos rfl] at H; exact H
  clear H
  have H := H1
  clear H1
  have H' := zA H
  clear H
  have hnb20 := NB201_202.out
  have hnc20 := NB202_201.out
  obtain ⟨hcz21_0, hcz21_1⟩ := zd2 BK201
  obtain ⟨hfz21_0, hfz21_1⟩ := zn2 BK201
  obtain ⟨hcz22_0, hcz22_1⟩ := zd2 BK202
  obtain ⟨hfz22_0, hfz22_1⟩ := zn2 BK202
  go_wp2_with (first | ((with_reducible refine gate_callee (f := 7) rfl ?_); refine zgl (N := some 27) Try.func7 #[.agg #[.int .i64 t197, .int .i64 t198], .agg #[.int .i64 t199, .int .i64 t200]] ?_; (with_reducible refine (spec_SkyLeg.calls k t197 t198 t199 t200 t209 _ A17.out).mono ?_); rintro e w23 ⟨v210, rfl, ho0, hb⟩; refine ⟨_, rfl, ?_⟩; have HO211 := zA (Kd.R_lower (Kd.R_newB (Kd.R_newB (Kd.R_new' (Kd.R_new' ho0 (Kd.R_lt (zr HO205))) (Kd.R_lt (zr HO208))) (g := gb201) (o := .cells #[.int .i64 t197, .int .i64 t198] 24 (0, 0)) (zh BK201)) (g := gb202) (o := .cells #[.int .i64 t199, .int .i64 t200] 24 (0, 0)) (zh BK202)) (below_size (zs2 HB GE201 GE202))); replace HO205 := zA (Kd.R_elder' (zr HO205) (Kd.R_base ho0) hb); replace HO208 := zA (Kd.R_elder' (zr HO208) (Kd.R_base ho0) hb); replace BK201 := zb BK201 hb; replace BK202 := zb BK202 hb; replace HB := zE (zs2 HB GE201 GE202) hb; (try clear hb); (try clear hb2); (try clear hk); (try clear hi); (try clear ho0); obtain ⟨Ao24, co24, eo24⟩ := Kd.R_slice HO205.out; subst eo24; obtain ⟨Ao25, co25, eo25⟩ := Kd.R_slice HO211.out; subst eo25) | ((with_reducible refine gate_callee (f := 6) rfl ?_); refine zgl (N := some 28) Try.func6 #[.slice Ao24 t203.length co24, .slice Ao25 t209.length co25] ?_; (with_reducible refine (laws_wmCells.calls k _ _ t203 _ _ t209 true _ ?side1 ?side2 ?side3 ?side4 A18.out).mono ?_); (case side1 => repeat (first | exact (Kd.R_reads' HO205.out).2.2 | (with_reducible refine Kd.C_alloc ?_ _) | (with_reducible refine Kd.C_drewN ?_ _) | (with_reducible refine Kd.C_drew ?_))); (case side2 => exact (Kd.R_reads' HO205.out).2.1); (case side3 => repeat (first | exact (Kd.R_reads' HO211.out).2.2 | (with_reducible refine Kd.C_alloc ?_ _) | (with_reducible refine Kd.C_drewN ?_ _) | (with_reducible refine Kd.C_drew ?_))); (case side4 => exact (Kd.R_reads' HO211.out).2.1); rintro e w' ⟨rfl, ⟨nd, rfl⟩⟩; refine ⟨_, rfl, ?_⟩; obtain ⟨Ao26, co26, eo26⟩ := Kd.R_slice HO208.out; subst eo26))
  go_meet
  case rel => exact ⟨_, (((t203.length : Int) != (t206.length : Int))), zi, H', ⟨by first | omega | exact Nat.le_refl _⟩, ⟨by (with_reducible repeat (first | apply Kd.R_alloc | apply Kd.R_drewN | apply Kd.R_drew)); exact Kd.R_mono HO205.out (fun _ hk => ⟨hk.1.2, ⟨hk.1.1.1.2, hk.1.1.2⟩⟩)⟩, ⟨by (with_reducible repeat (first | apply Kd.R_alloc | apply Kd.R_drewN | apply Kd.R_drew)); exact Kd.R_mono HO208.out (fun _ hk => ⟨hk.1.1.1.2, ⟨hk.1.1.2, hk.1.2⟩⟩)⟩, ⟨zh BK201⟩, ⟨zh BK202⟩, ⟨zs2 HB GE201 GE202⟩⟩
 case rest =>
  clear HC6
  try clear c1
  try clear c2
  try clear c2b0
  try clear c2b1
  try clear p2
  try clear c3
  try clear c4
  try clear c5
  try clear c6
  try clear c7
  try clear c10
  try clear c19
  try clear c20
  try clear c27
  try clear hcz11_0 hcz11_1
  try clear hcz12_0 hcz12_1
  try clear hcz14_0 hcz14_1
  try clear hcz15_0 hcz15_1
  try clear hcz21_0 hcz21_1
  try clear hcz22_0 hcz22_1
  try clear hcz28_0 hcz28_1
  try clear hcz29_0 hcz29_1
  try clear hfz11_0 hfz11_1
  try clear hfz12_0 hfz12_1
  try clear hfz14_0 hfz14_1
  try clear hfz15_0 hfz15_1
  try clear hfz21_0 hfz21_1
  try clear hfz22_0 hfz22_1
  try clear hfz28_0 hfz28_1
  try clear hfz29_0 hfz29_1
  obtain ⟨kq, x36_5, rfl, HA, HJ5, HO_5, HO_6, BK201, BK202, HB⟩ := hcut
  cases kq with
  | zero => exact absurd HA.out (by simp [laws_FnSkyLegs.j0])
  | succ kj5 =>
   have H := HA.out
   clear HA
   simp only [laws_FnSkyLegs.j0] at H
   by_cases c33 : x36_5 = true
   ·subst c33
    have H1 : (some false) = some r := by rw [if_pos rfl] at H; exact H
    clear H
    have H := H1
    clear H1
    obtain rfl := Option.some.inj H
    go_wp2
    go_ret
    exact ⟨ze, zs2 HB GE201 GE202⟩
   replace c33 := Bool.eq_false_iff.mpr c33
   subst c33
   have H1 : (laws_FnSkyLegs.l0 kj5 t203 t206 0 t197 t198 t199 t200) = some r := by rw [if_neg (show ¬ (false = true) by decide)] at H; exact H
   clear H
   have H := H1
   clear H1
   have H' := zA H
   clear H
   go_wp2
   go_loopg [7] kj5 (fun kq v7 w' => ∃ (x7_2 : Int), v7 = .int .i64 x7_2 ∧ Aside0 (laws_FnSkyLegs.l0 kq t203 t206 x7_2 t197 t198 t199 t200 = some r) ∧ Aside0 (kq ≤ kj5) ∧ Aside0 (Kd.R k24 24 w' w.heap.size (fun k_ => some k_ ≠ (v207 : Value).ownBlock ∧ k_ ≠ gb201 ∧ k_ ≠ gb202) v204 t203) ∧ Aside0 (Kd.R k24 24 w' w.heap.size (fun k_ => some k_ ≠ (v204 : Value).ownBlock ∧ k_ ≠ gb201 ∧ k_ ≠ gb202) v207 t206) ∧ Aside0 (w'.heap[gb201]? = some (.cells #[.int .i64 t197, .int .i64 t198] 24 (0, 0))) ∧ Aside0 (w'.heap[gb202]? = some (.cells #[.int .i64 t199, .int .i64 t200] 24 (0, 0))) ∧ Aside0 (Below w.heap.size w w'))
   case atStart => exact ⟨(0), zi, H', ⟨Nat.le_refl _⟩, ⟨zr HO_5⟩, ⟨zr HO_6⟩, ⟨zh BK201⟩, ⟨zh BK202⟩, ⟨zs2 HB GE201 GE202⟩⟩
   case round => as_aux_lemma =>
    clear H'
    try clear c1
    try clear c2
    try clear c2b0
    try clear c2b1
    try clear p2
    try clear c3
    try clear c4
    try clear c5
    try clear c6
    try clear c7
    try clear c10
    try clear c19
    try clear c20
    try clear c27
    try clear c33
    try clear hcz11_0 hcz11_1
    try clear hcz12_0 hcz12_1
    try clear hcz14_0 hcz14_1
    try clear hcz15_0 hcz15_1
    try clear hcz21_0 hcz21_1
    try clear hcz22_0 hcz22_1
    try clear hcz28_0 hcz28_1
    try clear hcz29_0 hcz29_1
    try clear hfz11_0 hfz11_1
    try clear hfz12_0 hfz12_1
    try clear hfz14_0 hfz14_1
    try clear hfz15_0 hfz15_1
    try clear hfz21_0 hfz21_1
    try clear hfz22_0 hfz22_1
    try clear hfz28_0 hfz28_1
    try clear hfz29_0 hfz29_1
    try clear p2
    obtain ⟨x7_2, rfl, HA, HK2, HO_5, HO_6, BK201, BK202, HB⟩ := hrel
    cases gk with
    | zero => exact absurd HA.out (by simp [laws_FnSkyLegs.l0])
    | succ k2 =>
     have H := HA.out
     clear HA
     simp only [laws_FnSkyLegs.l0] at H
     by_cases c34 : x7_2 < (t203.length : Int)
     ·rw [if_pos c34] at H
      have c34b0 : decide (x7_2 < (t203.length : Int)) = true := decide_eq_true c34
      clear c34
      by_cases c35 : 0 ≤ x7_2
      rotate_left
      ·rw [if_neg c35] at H
       exact absurd H (by simp)
      rw [if_pos c35] at H
      have c35b0 : decide (0 ≤ x7_2) = true := decide_eq_true c35
      clear c35
      obtain ⟨ji36, hji36⟩ : ∃ j_ : Int, (wrap64 ((wrap64 ((t203.length : Int) - 1)) - x7_2)) = j_ := ⟨_, rfl⟩
      first | rw [hji36] at H | simp only [hji36] at H
      have hji36w : (IntKind.i64.wrap ((wrap64 ((t203.length : Int) - 1)) - x7_2)) = ji36 := (i64_w _).trans hji36
      by_cases c37 : 0 ≤ (ji36)
      rotate_left
      ·rw [if_neg c37] at H
       exact absurd H (by simp)
      rw [if_pos c37] at H
      have c37b0 : decide (0 ≤ (ji36)) = true := decide_eq_true c37
      clear c37
      by_cases c38 : (ji36) < (t206.length : Int)
      rotate_left
      ·rw [if_neg c38] at H
       exact absurd H (by simp)
      rw [if_pos c38] at H
      have c38b0 : decide ((ji36) < (t206.length : Int)) = true := decide_eq_true c38
      clear c38
      by_cases c39 : (!(((rd_T24 t203 x7_2).f0) == ((rd_T24 t206 (ji36)).f0)) || (!(((rd_T24 t203 x7_2).f1) == ((rd_T24 t206 (ji36)).f1)))) = true
      ·rw [if_pos c39] at H
       have c39b0 : (!(((rd_T24 t203 x7_2).f0) == ((rd_T24 t206 (ji36)).f0)) || (!(((rd_T24 t203 x7_2).f1) == ((rd_T24 t206 (ji36)).f1)))) = true := c39
       clear c39
       obtain rfl := Option.some.inj H
       obtain ⟨Ao40, co40, eo40⟩ := Kd.R_slice HO_5.out
       subst eo40
       try go_wp2
       replace HO_5 := zA (Kd.R_drew HO_5.out)
       replace HO_6 := zA (Kd.R_drew HO_6.out)
       replace BK201 := zA (blk_drew BK201.out)
       replace BK202 := zA (blk_drew BK202.out)
       replace HB := zA (below_drew1 HB.out)
       have p213 : 0 ≤ (x7_2 : Int) := za
       have q213 : x7_2 < (t203.length : Int) := za
       obtain ⟨ad213, e213, hx213_0, hx213_1⟩ := at_T24 (Kd.R_reads' HO_5.out).2.2 x7_2 p213 q213
       cases e213
       replace p213 := eq_true p213
       replace q213 := eq_true q213
       obtain ⟨Ao42, co42, eo42⟩ := Kd.R_slice HO_6.out
       (first | subst eo42 | (injection eo42 with f1_ f2_ f3_; have f4_ := f1_.symm; have f5_ := f3_.symm; clear f1_ f2_ f3_; subst f4_; subst f5_))
       have p214 : 0 ≤ ((ji36) : Int) := za
       have q214 : (ji36) < (t206.length : Int) := za
       obtain ⟨ad214, e214, hx214_0, hx214_1⟩ := at_T24 (Kd.R_reads' HO_6.out).2.2 (ji36) p214 q214
       cases e214
       replace p214 := eq_true p214
       replace q214 := eq_true q214
       refine start_ (n := 13) (S := fun w' => w'.cell? (ad213.add ((x7_2).toNat * 2)) = some (.int .i64 ((rd_T24 t203 x7_2).f0)) ∧ w'.cell? ⟨(ad213.add ((x7_2).toNat * 2)).block, (ad213.add ((x7_2).toNat * 2)).off + 1, none⟩ = some (.int .i64 ((rd_T24 t203 x7_2).f1)) ∧ w'.cell? (ad214.add (((ji36)).toNat * 2)) = some (.int .i64 ((rd_T24 t206 (ji36)).f0)) ∧ w'.cell? ⟨(ad214.add (((ji36)).toNat * 2)).block, (ad214.add (((ji36)).toNat * 2)).off + 1, none⟩ = some (.int .i64 ((rd_T24 t206 (ji36)).f1))) (ds := []) #[F,F,F,F,F,F,F,F,F,F,F,F,F] (by kernel_rfl) rfl rfl ⟨hx213_0, hx213_1, hx214_0, hx214_1⟩ (fun hHeld => ?_); refine with_tabW laws_FnSkyLegs.tab11 laws_FnSkyLegs.bits11 (fun HT_ HW_ => ?_)
       generalize wr.drew = w41 at HO_5 HO_6 BK201 BK202 HB hx213_0 hx213_1 hx214_0 hx214_1 hHeld ⊢
       refine zq HT_ 0 ?_
       refine zq HT_ 1 ?_
       refine zq HT_ 2 ?_
       refine zq HT_ 4 ?_
       refine zq HT_ 5 ?_
       refine zq HT_ 6 ?_
       refine zq HT_ 7 ?_
       refine zq HT_ 8 ?_
       refine zq HT_ 9 ?_
       refine zq HT_ 10 ?_
       refine zk4 HT_ HW_ hHeld 3 ?_
       refine zk4 HT_ HW_ hHeld 11 ?_
       refine zq HT_ 12 ?_
       refine done_ (done_of HT_.out (by kernel_rfl)) ?_
       try go_wp2
       go_ret
       exact ⟨by first | rfl | (simp [errW_none, errW_some] <;> rfl) | (simp only [← hji36]; first | rfl | (simp [errW_none, errW_some] <;> rfl)) | (simp [*, errW_none, errW_some] <;> rfl), zs2 HB GE201 GE202⟩
      rw [if_neg c39] at H
      have c39b0 : (!(((rd_T24 t203 x7_2).f0) == ((rd_T24 t206 (ji36)).f0)) || (!(((rd_T24 t203 x7_2).f1) == ((rd_T24 t206 (ji36)).f1)))) = false := by simpa using c39
      clear c39
      have H' := zA H
      clear H
      obtain ⟨Ao43, co43, eo43⟩ := Kd.R_slice HO_5.out
      subst eo43
      try go_wp2
      replace HO_5 := zA (Kd.R_drew HO_5.out)
      replace HO_6 := zA (Kd.R_drew HO_6.out)
      replace BK201 := zA (blk_drew BK201.out)
      replace BK202 := zA (blk_drew BK202.out)
      replace HB := zA (below_drew1 HB.out)
      have p213 : 0 ≤ (x7_2 : Int) := za
      have q213 : x7_2 < (t203.length : Int) := za
      obtain ⟨ad213, e213, hx213_0, hx213_1⟩ := at_T24 (Kd.R_reads' HO_5.out).2.2 x7_2 p213 q213
      cases e213
      replace p213 := eq_true p213
      replace q213 := eq_true q213
      obtain ⟨Ao45, co45, eo45⟩ := Kd.R_slice HO_6.out
      (first | subst eo45 | (injection eo45 with f1_ f2_ f3_; have f4_ := f1_.symm; have f5_ := f3_.symm; clear f1_ f2_ f3_; subst f4_; subst f5_))
      have p214 : 0 ≤ ((ji36) : Int) := za
      have q214 : (ji36) < (t206.length : Int) := za
      obtain ⟨ad214, e214, hx214_0, hx214_1⟩ := at_T24 (Kd.R_reads' HO_6.out).2.2 (ji36) p214 q214
      cases e214
      replace p214 := eq_true p214
      replace q214 := eq_true q214
      refine start_ (n := 13) (S := fun w' => w'.cell? (ad213.add ((x7_2).toNat * 2)) = some (.int .i64 ((rd_T24 t203 x7_2).f0)) ∧ w'.cell? ⟨(ad213.add ((x7_2).toNat * 2)).block, (ad213.add ((x7_2).toNat * 2)).off + 1, none⟩ = some (.int .i64 ((rd_T24 t203 x7_2).f1)) ∧ w'.cell? (ad214.add (((ji36)).toNat * 2)) = some (.int .i64 ((rd_T24 t206 (ji36)).f0)) ∧ w'.cell? ⟨(ad214.add (((ji36)).toNat * 2)).block, (ad214.add (((ji36)).toNat * 2)).off + 1, none⟩ = some (.int .i64 ((rd_T24 t206 (ji36)).f1))) (ds := []) #[F,F,F,F,F,F,F,F,F,F,F,F,F] (by kernel_rfl) rfl rfl ⟨hx213_0, hx213_1, hx214_0, hx214_1⟩ (fun hHeld => ?_); refine with_tabW laws_FnSkyLegs.tab11 laws_FnSkyLegs.bits11 (fun HT_ HW_ => ?_)
      generalize wr.drew = w44 at HO_5 HO_6 BK201 BK202 HB hx213_0 hx213_1 hx214_0 hx214_1 hHeld ⊢
      refine zq HT_ 0 ?_
      refine zq HT_ 1 ?_
      refine zq HT_ 2 ?_
      refine zq HT_ 4 ?_
      refine zq HT_ 5 ?_
      refine zq HT_ 6 ?_
      refine zq HT_ 7 ?_
      refine zq HT_ 8 ?_
      refine zq HT_ 9 ?_
      refine zq HT_ 10 ?_
      refine zk4 HT_ HW_ hHeld 3 ?_
      refine zk4 HT_ HW_ hHeld 11 ?_
      refine zq HT_ 12 ?_
      refine done_ (done_of HT_.out (by kernel_rfl)) ?_
      try go_wp2
      go_roundg k2
      case measure => have := HJ5.out; have := HK2.out; omega
      case rel => exact ⟨(wrap64 (x7_2 + 1)), zi, H', ⟨by have := HJ5.out; have := HK2.out; omega⟩, ⟨zr HO_5⟩, ⟨zr HO_6⟩, ⟨zh BK201⟩, ⟨zh BK202⟩, ⟨zs2 HB GE201 GE202⟩⟩
     rw [if_neg c34] at H
     have c34b0 : decide (x7_2 < (t203.length : Int)) = false := decide_eq_false c34
     clear c34
     by_cases c46 : (t203.length : Int) = 0
     ·rw [if_pos c46] at H
      have c46b0 : ((t203.length : Int) == 0) = true := beq_iff_eq.mpr c46
      have c46b1 : ((t203.length : Int) != 0) = false := bne_eq_false_iff_eq.mpr c46
      clear c46
      by_cases c47 : t197 < 0
      ·rw [if_pos c47] at H
       have c47b0 : decide (t197 < 0) = true := decide_eq_true c47
       clear c47
       obtain rfl := Option.some.inj H
       obtain ⟨Ao48, co48, eo48⟩ := Kd.R_slice HO_5.out
       subst eo48
       have hnb49 := NB201_202.out
       have hnc49 := NB202_201.out
       obtain ⟨hcz50_0, hcz50_1⟩ := zd2 BK201
       obtain ⟨hfz50_0, hfz50_1⟩ := zn2 BK201
       go_wp2
       go_ret
       exact ⟨ze, zs2 HB GE201 GE202⟩
      rw [if_neg c47] at H
      have c47b0 : decide (t197 < 0) = false := decide_eq_false c47
      clear c47
      by_cases c51 : t198 < 0
      ·rw [if_pos c51] at H
       have c51b0 : decide (t198 < 0) = true := decide_eq_true c51
       clear c51
       obtain rfl := Option.some.inj H
       obtain ⟨Ao52, co52, eo52⟩ := Kd.R_slice HO_5.out
       subst eo52
       have hnb53 := NB201_202.out
       have hnc53 := NB202_201.out
       obtain ⟨hcz54_0, hcz54_1⟩ := zd2 BK201
       obtain ⟨hfz54_0, hfz54_1⟩ := zn2 BK201
       go_wp2
       go_ret
       exact ⟨ze, zs2 HB GE201 GE202⟩
      rw [if_neg c51] at H
      have c51b0 : decide (t198 < 0) = false := decide_eq_false c51
      clear c51
      by_cases c55 : t199 < 0
      ·rw [if_pos c55] at H
       have c55b0 : decide (t199 < 0) = true := decide_eq_true c55
       clear c55
       obtain rfl := Option.some.inj H
       obtain ⟨Ao56, co56, eo56⟩ := Kd.R_slice HO_5.out
       subst eo56
       have hnb57 := NB201_202.out
       have hnc57 := NB202_201.out
       obtain ⟨hcz58_0, hcz58_1⟩ := zd2 BK201
       obtain ⟨hfz58_0, hfz58_1⟩ := zn2 BK201
       obtain ⟨hcz59_0, hcz59_1⟩ := zd2 BK202
       obtain ⟨hfz59_0, hfz59_1⟩ := zn2 BK202
       go_wp2
       go_ret
       exact ⟨ze, zs2 HB GE201 GE202⟩
      rw [if_neg c55] at H
      have c55b0 : decide (t199 < 0) = false := decide_eq_false c55
      clear c55
      by_cases c60 : t200 < 0
      ·rw [if_pos c60] at H
       have c60b0 : decide (t200 < 0) = true := decide_eq_true c60
       clear c60
       obtain rfl := Option.some.inj H
       obtain ⟨Ao61, co61, eo61⟩ := Kd.R_slice HO_5.out
       subst eo61
       have hnb62 := NB201_202.out
       have hnc62 := NB202_201.out
       obtain ⟨hcz63_0, hcz63_1⟩ := zd2 BK201
       obtain ⟨hfz63_0, hfz63_1⟩ := zn2 BK201
       obtain ⟨hcz64_0, hcz64_1⟩ := zd2 BK202
       obtain ⟨hfz64_0, hfz64_1⟩ := zn2 BK202
       go_wp2
       go_ret
       exact ⟨ze, zs2 HB GE201 GE202⟩
      rw [if_neg c60] at H
      have c60b0 : decide (t200 < 0) = false := decide_eq_false c60
      clear c60
      by_cases c65 : t197 ≥ 16
      ·rw [if_pos c65] at H
       have c65b0 : decide (16 ≤ t197) = true := decide_eq_true c65
       clear c65
       obtain rfl := Option.some.inj H
       obtain ⟨Ao66, co66, eo66⟩ := Kd.R_slice HO_5.out
       subst eo66
       have hnb67 := NB201_202.out
       have hnc67 := NB202_201.out
       obtain ⟨hcz68_0, hcz68_1⟩ := zd2 BK201
       obtain ⟨hfz68_0, hfz68_1⟩ := zn2 BK201
       obtain ⟨hcz69_0, hcz69_1⟩ := zd2 BK202
       obtain ⟨hfz69_0, hfz69_1⟩ := zn2 BK202
       go_wp2
       go_ret
       exact ⟨ze, zs2 HB GE201 GE202⟩
      rw [if_neg c65] at H
      have c65b0 : decide (16 ≤ t197) = false := decide_eq_false c65
      clear c65
      by_cases c70 : t198 ≥ 16
      ·rw [if_pos c70] at H
       have c70b0 : decide (16 ≤ t198) = true := decide_eq_true c70
       clear c70
       obtain rfl := Option.some.inj H
       obtain ⟨Ao71, co71, eo71⟩ := Kd.R_slice HO_5.out
       subst eo71
       have hnb72 := NB201_202.out
       have hnc72 := NB202_201.out
       obtain ⟨hcz73_0, hcz73_1⟩ := zd2 BK201
       obtain ⟨hfz73_0, hfz73_1⟩ := zn2 BK201
       obtain ⟨hcz74_0, hcz74_1⟩ := zd2 BK202
       obtain ⟨hfz74_0, hfz74_1⟩ := zn2 BK202
       go_wp2
       go_ret
       exact ⟨ze, zs2 HB GE201 GE202⟩
      rw [if_neg c70] at H
      have c70b0 : decide (16 ≤ t198) = false := decide_eq_false c70
      clear c70
      by_cases c75 : t199 ≥ 16
      ·rw [if_pos c75] at H
       have c75b0 : decide (16 ≤ t199) = true := decide_eq_true c75
       clear c75
       obtain rfl := Option.some.inj H
       obtain ⟨Ao76, co76, eo76⟩ := Kd.R_slice HO_5.out
       subst eo76
       have hnb77 := NB201_202.out
       have hnc77 := NB202_201.out
       obtain ⟨hcz78_0, hcz78_1⟩ := zd2 BK201
       obtain ⟨hfz78_0, hfz78_1⟩ := zn2 BK201
       obtain ⟨hcz79_0, hcz79_1⟩ := zd2 BK202
       obtain ⟨hfz79_0, hfz79_1⟩ := zn2 BK202
       go_wp2
       go_ret
       exact ⟨ze, zs2 HB GE201 GE202⟩
      rw [if_neg c75] at H
      have c75b0 : decide (16 ≤ t199) = false := decide_eq_false c75
      clear c75
      obtain rfl := Option.some.inj H
      obtain ⟨Ao80, co80, eo80⟩ := Kd.R_slice HO_5.out
      subst eo80
      have hnb81 := NB201_202.out
      have hnc81 := NB202_201.out
      obtain ⟨hcz82_0, hcz82_1⟩ := zd2 BK201
      obtain ⟨hfz82_0, hfz82_1⟩ := zn2 BK201
      obtain ⟨hcz83_0, hcz83_1⟩ := zd2 BK202
      obtain ⟨hfz83_0, hfz83_1⟩ := zn2 BK202
      go_wp2
      go_ret
      exact ⟨ze, zs2 HB GE201 GE202⟩
     rw [if_neg c46] at H
     have c46b0 : ((t203.length : Int) == 0) = false := beq_eq_false_iff_ne.mpr c46
     have c46b1 : ((t203.length : Int) != 0) = true := bne_iff_ne.mpr c46
     have c46b2 : ¬ (t203 = []) := fun h_ => c46 (by rw [h_]; rfl)
     have HC84 := zA H
     clear H
     obtain ⟨Ao85, co85, eo85⟩ := Kd.R_slice HO_5.out
     subst eo85
     go_upto_region 16 with (fail)
     go_cut [123] (fun v123 wc => ∃ (kq : Nat) (x123_83 : Bool), v123 = .bool x123_83 ∧ Aside0 (laws_FnSkyLegs.j2 kq t203 (wrap64 ((t203.length : Int) - 1)) x123_83 t197 t198 t199 t200 = some r) ∧ Aside0 (kq ≤ k2) ∧ Aside0 (Kd.R k24 24 wc w.heap.size (fun k_ => k_ ≠ gb201 ∧ k_ ≠ gb202) (.slice Ao85 t203.length co85) t203) ∧ Aside0 (wc.heap[gb201]? = some (.cells #[.int .i64 t197, .int .i64 t198] 24 (0, 0))) ∧ Aside0 (wc.heap[gb202]? = some (.cells #[.int .i64 t199, .int .i64 t200] 24 (0, 0))) ∧ Aside0 (Below w.heap.size w wc))
     case first => as_aux_lemma =>
      have H := HC84.out
      clear HC84
      by_cases c86 : (wrap64 ((t203.length : Int) - 1)) > 0
      rotate_left
      ·rw [if_neg c86] at H
       have c86b0 : decide (0 < (wrap64 ((t203.length : Int) - 1))) = false := decide_eq_false c86
       clear c86
       (first | rw [c86b0] | (simp only [i64_w, i32_w]; rw [c86b0]) | skip)
       by_cases c100 : 0 < (t203.length : Int)
       rotate_left
       ·rw [if_neg c100] at H
        exact absurd H (by simp)
       rw [if_pos c100] at H
       have c100b0 : decide (0 < (t203.length : Int)) = true := decide_eq_true c100
       have c100b1 : decide (0 < t203.length) = true := decide_eq_true (by omega)
       clear c100
       by_cases c101 : (!(((rd_T24 t203 0).f0) == t197) || (!(((rd_T24 t203 0).f1) == t198))) = true
       ·rw [if_pos c101] at H
        have c101b0 : (!(((rd_T24 t203 0).f0) == t197) || (!(((rd_T24 t203 0).f1) == t198))) = true := c101
        clear c101
        have H' := zA H
        clear H
        try go_wp2
        replace HO_5 := zA (Kd.R_drew HO_5.out)
        replace HO_6 := zA (Kd.R_drew HO_6.out)
        replace BK201 := zA (blk_drew BK201.out)
        replace BK202 := zA (blk_drew BK202.out)
        replace HB := zA (below_drew1 HB.out)
        have p218 : 0 ≤ (0 : Int) := (by omega)
        have q218 : 0 < (t203.length : Int) := za
        obtain ⟨ad218, e218, hx218_0, hx218_1⟩ := at_T24 (Kd.R_reads' HO_5.out).2.2 0 p218 q218
        cases e218
        have qi218 : (0 < t203.length) = True := eq_true (by omega)
        (try rw [zi0] at hx218_0)
        (try rw [show 0 * 2 = 0 from rfl] at hx218_0)
        (try rw [Addr.add_zero'] at hx218_0)
        (try rw [zi0] at hx218_1)
        (try rw [show 0 * 2 = 0 from rfl] at hx218_1)
        (try rw [Addr.add_zero'] at hx218_1)
        replace p218 := eq_true p218
        replace q218 := eq_true q218
        refine start_ (n := 24) (S := fun w' => w'.cell? ⟨gb201, 0, none⟩ = some (.int .i64 t197) ∧ w'.cell? ⟨gb201, 1, none⟩ = some (.int .i64 t198) ∧ w'.cell? ad218 = some (.int .i64 ((rd_T24 t203 0).f0)) ∧ w'.cell? ⟨ad218.block, ad218.off + 1, none⟩ = some (.int .i64 ((rd_T24 t203 0).f1))) (ds := []) #[F,F,F,F,F,F,F,F,F,F,F,F,F,F,F,F,F,F,F,F,F,F,F,F] (by kernel_rfl) rfl rfl ⟨zc0 BK201, zc1 BK201, hx218_0, hx218_1⟩ (fun hHeld => ?_); refine with_tabW laws_FnSkyLegs.tab16 laws_FnSkyLegs.bits16 (fun HT_ HW_ => ?_)
        generalize wr.drew = w102 at HO_5 HO_6 BK201 BK202 HB hx218_0 hx218_1 hHeld ⊢
        refine zq HT_ 0 ?_
        refine zq HT_ 1 ?_
        refine zq HT_ 2 ?_
        refine zu HT_ 3 ?_
        refine zu HT_ 4 ?_
        refine zu HT_ 5 ?_
        refine zu HT_ 6 ?_
        refine zu HT_ 7 ?_
        refine zq HT_ 8 ?_
        refine zq HT_ 9 ?_
        refine zq HT_ 10 ?_
        refine zq HT_ 11 ?_
        refine zk4 HT_ HW_ hHeld 12 ?_
        refine zk4 HT_ HW_ hHeld 13 ?_
        refine zq HT_ 14 ?_
        refine zq HT_ 15 ?_
        refine zq HT_ 16 ?_
        refine zu HT_ 17 ?_
        refine zu HT_ 18 ?_
        refine zu HT_ 19 ?_
        refine zu HT_ 20 ?_
        refine zu HT_ 21 ?_
        refine zu HT_ 22 ?_
        refine zq HT_ 23 ?_
        refine done_ (done_of HT_.out (by kernel_rfl)) ?_
        try go_wp2
        go_meet
        case rel => exact ⟨_, (true), zi, H', ⟨by have := HJ5.out; have := HK2.out; first | omega | exact Nat.le_refl _⟩, ⟨by (with_reducible repeat (first | apply Kd.R_alloc | apply Kd.R_drewN | apply Kd.R_drew)); exact Kd.R_mono HO_5.out (fun _ hk => ⟨hk.2.1, hk.2.2⟩)⟩, ⟨zh BK201⟩, ⟨zh BK202⟩, ⟨zs2 HB GE201 GE202⟩⟩
       rw [if_neg c101] at H
       have c101b0 : (!(((rd_T24 t203 0).f0) == t197) || (!(((rd_T24 t203 0).f1) == t198))) = false := by simpa using c101
       clear c101
       obtain ⟨ji103, hji103⟩ : ∃ j_ : Int, (wrap64 ((t203.length : Int) - 1)) = j_ := ⟨_, rfl⟩
       first | rw [hji103] at H | simp only [hji103] at H
       (try rw [hji103] at c86b0)
       have hji103w : (IntKind.i64.wrap ((t203.length : Int) - 1)) = ji103 := (i64_w _).trans hji103
       by_cases c104 : 0 ≤ (ji103)
       rotate_left
       ·rw [if_neg c104] at H
        exact absurd H (by simp)
       rw [if_pos c104] at H
       have c104b0 : decide (0 ≤ (ji103)) = true := decide_eq_true c104
       clear c104
       by_cases c105 : (ji103) < (t203.length : Int)
       rotate_left
       ·rw [if_neg c105] at H
        exact absurd H (by simp)
       rw [if_pos c105] at H
       have c105b0 : decide ((ji103) < (t203.length : Int)) = true := decide_eq_true c105
       clear c105
       have H' := zA H
       clear H
       try go_wp2
       replace HO_5 := zA (Kd.R_drew HO_5.out)
       replace HO_6 := zA (Kd.R_drew HO_6.out)
       replace BK201 := zA (blk_drew BK201.out)
       replace BK202 := zA (blk_drew BK202.out)
       replace HB := zA (below_drew1 HB.out)
       have p218 : 0 ≤ (0 : Int) := (by omega)
       have q218 : 0 < (t203.length : Int) := za
       obtain ⟨ad218, e218, hx218_0, hx218_1⟩ := at_T24 (Kd.R_reads' HO_5.out).2.2 0 p218 q218
       cases e218
       have qi218 : (0 < t203.length) = True := eq_true (by omega)
       (try rw [zi0] at hx218_0)
       (try rw [show 0 * 2 = 0 from rfl] at hx218_0)
       (try rw [Addr.add_zero'] at hx218_0)
       (try rw [zi0] at hx218_1)
       (try rw [show 0 * 2 = 0 from rfl] at hx218_1)
       (try rw [Addr.add_zero'] at hx218_1)
       replace p218 := eq_true p218
       replace q218 := eq_true q218
       have p219 : 0 ≤ ((ji103) : Int) := za
       have q219 : (ji103) < (t203.length : Int) := za
       obtain ⟨ad219, e219, hx219_0, hx219_1⟩ := at_T24 (Kd.R_reads' HO_5.out).2.2 (ji103) p219 q219
       obtain rfl : ad218 = ad219 := (by injection e219)
       replace p219 := eq_true p219
       replace q219 := eq_true q219
       refine start_ (n := 24) (S := fun w' => w'.cell? ⟨gb201, 0, none⟩ = some (.int .i64 t197) ∧ w'.cell? ⟨gb201, 1, none⟩ = some (.int .i64 t198) ∧ w'.cell? ⟨gb202, 0, none⟩ = some (.int .i64 t199) ∧ w'.cell? ⟨gb202, 1, none⟩ = some (.int .i64 t200) ∧ w'.cell? ad218 = some (.int .i64 ((rd_T24 t203 0).f0)) ∧ w'.cell? ⟨ad218.block, ad218.off + 1, none⟩ = some (.int .i64 ((rd_T24 t203 0).f1)) ∧ w'.cell? (ad218.add (((ji103)).toNat * 2)) = some (.int .i64 ((rd_T24 t203 (ji103)).f0)) ∧ w'.cell? ⟨(ad218.add (((ji103)).toNat * 2)).block, (ad218.add (((ji103)).toNat * 2)).off + 1, none⟩ = some (.int .i64 ((rd_T24 t203 (ji103)).f1))) (ds := []) #[F,F,F,F,F,F,F,F,F,F,F,F,F,F,F,F,F,F,F,F,F,F,F,F] (by kernel_rfl) rfl rfl ⟨zc0 BK201, zc1 BK201, zc0 BK202, zc1 BK202, hx218_0, hx218_1, hx219_0, hx219_1⟩ (fun hHeld => ?_); refine with_tabW laws_FnSkyLegs.tab16 laws_FnSkyLegs.bits16 (fun HT_ HW_ => ?_)
       generalize wr.drew = w106 at HO_5 HO_6 BK201 BK202 HB hx218_0 hx218_1 hx219_0 hx219_1 hHeld ⊢
       refine zq HT_ 0 ?_
       refine zq HT_ 1 ?_
       refine zq HT_ 2 ?_
       refine zu HT_ 3 ?_
       refine zu HT_ 4 ?_
       refine zu HT_ 5 ?_
       refine zu HT_ 6 ?_
       refine zu HT_ 7 ?_
       refine zq HT_ 8 ?_
       refine zq HT_ 9 ?_
       refine zq HT_ 10 ?_
       refine zq HT_ 11 ?_
       refine zk8 HT_ HW_ hHeld 12 ?_
       refine zk8 HT_ HW_ hHeld 13 ?_
       refine zq HT_ 14 ?_
       refine zq HT_ 15 ?_
       refine zq HT_ 16 ?_
       refine zq HT_ 17 ?_
       refine zq HT_ 18 ?_
       refine zq HT_ 19 ?_
       refine zk8 HT_ HW_ hHeld 20 ?_
       refine zk8 HT_ HW_ hHeld 21 ?_
       refine zq HT_ 22 ?_
       refine zq HT_ 23 ?_
       refine done_ (done_of HT_.out (by kernel_rfl)) ?_
       try go_wp2
       subst hji103
       go_meet
       case rel => exact ⟨_, ((!(((rd_T24 t203 ((wrap64 ((t203.length : Int) - 1)))).f0) == t199) || (!(((rd_T24 t203 ((wrap64 ((t203.length : Int) - 1)))).f1) == t200)))), (by first | rfl | (simp; done) | ((first | rfl | exact congrArg Value.bool (leq_not _ _) | exact leq_not _ _ | simp)) | (simp [*]; done)), H', ⟨by have := HJ5.out; have := HK2.out; first | omega | exact Nat.le_refl _⟩, ⟨by (with_reducible repeat (first | apply Kd.R_alloc | apply Kd.R_drewN | apply Kd.R_drew)); exact Kd.R_mono HO_5.out (fun _ hk => ⟨hk.2.1, hk.2.2⟩)⟩, ⟨zh BK201⟩, ⟨zh BK202⟩, ⟨zs2 HB GE201 GE202⟩⟩
      rw [if_pos c86] at H
      have c86b0 : decide (0 < (wrap64 ((t203.length : Int) - 1))) = true := decide_eq_true c86
      clear c86
      (first | rw [c86b0] | (simp only [i64_w, i32_w]; rw [c86b0]) | skip)
      replace H := zbd H; obtain ⟨t215, A87, H⟩ := H
      by_cases c88 : t215 = (wrap64 ((t203.length : Int) - 1))
      rotate_left
      ·rw [if_neg c88] at H
       have c88b0 : (t215 == (wrap64 ((t203.length : Int) - 1))) = false := beq_eq_false_iff_ne.mpr c88
       have c88b1 : (t215 != (wrap64 ((t203.length : Int) - 1))) = true := bne_iff_ne.mpr c88
       have H' := zA H
       clear H
       try go_wp2
       replace HO_5 := zA (Kd.R_drew HO_5.out)
       replace HO_6 := zA (Kd.R_drew HO_6.out)
       replace BK201 := zA (blk_drew BK201.out)
       replace BK202 := zA (blk_drew BK202.out)
       replace HB := zA (below_drew1 HB.out)
       refine start_ (n := 24) (S := fun w' => w'.cell? ⟨gb201, 0, none⟩ = some (.int .i64 t197) ∧ w'.cell? ⟨gb201, 1, none⟩ = some (.int .i64 t198) ∧ w'.cell? ⟨gb202, 0, none⟩ = some (.int .i64 t199) ∧ w'.cell? ⟨gb202, 1, none⟩ = some (.int .i64 t200)) (ds := []) #[F,F,F,F,F,F,F,F,F,F,F,F,F,F,F,F,F,F,F,F,F,F,F,F] (by kernel_rfl) rfl rfl ⟨zc0 BK201, zc1 BK201, zc0 BK202, zc1 BK202⟩ (fun hHeld => ?_); refine with_tabW laws_FnSkyLegs.tab16 laws_FnSkyLegs.bits16 (fun HT_ HW_ => ?_)
       generalize wr.drew = w98 at HO_5 HO_6 BK201 BK202 HB hHeld ⊢
       refine zq HT_ 0 ?_
       refine zq HT_ 1 ?_
       refine zq HT_ 2 ?_
       refine zq HT_ 6 ?_
       refine zk4 HT_ HW_ hHeld 3 ?_
       refine zk4 HT_ HW_ hHeld 4 ?_
       refine zo HT_ 5 (fun K hK => ?_)
       refine zgo Try.func8 #[.agg #[.int .i64 t197, .int .i64 t198], .agg #[.int .i64 t199, .int .i64 t200]] ?_
       with_reducible refine (laws_wmMost.calls t197 t198 t199 t200 t215 _ A87.out).mono ?_
       rintro e w99 ⟨rfl, hb⟩
       refine ⟨_, rfl, ?_⟩
       replace HO_5 := zA (Kd.R_below (zr HO_5) hb)
       replace HO_6 := zA (Kd.R_below (zr HO_6) hb)
       replace BK201 := zb BK201 hb
       replace BK202 := zb BK202 hb
       replace HB := zE (zs2 HB GE201 GE202) hb
       (try clear hb)
       (try clear hb2)
       (try clear hk)
       (try clear hi)
       refine hK.out _ _ ⟨zc0 BK201, zc1 BK201, zc0 BK202, zc1 BK202⟩ (fun hHeld => ?_)
       clear hK K
       refine zN ?_
       refine zq HT_ 7 ?_
       refine zq HT_ 8 ?_
       refine zq HT_ 9 ?_
       refine zu HT_ 10 ?_
       refine zu HT_ 11 ?_
       refine zu HT_ 12 ?_
       refine zu HT_ 13 ?_
       refine zu HT_ 14 ?_
       refine zq HT_ 15 ?_
       refine zq HT_ 16 ?_
       refine zu HT_ 17 ?_
       refine zu HT_ 18 ?_
       refine zu HT_ 19 ?_
       refine zu HT_ 20 ?_
       refine zu HT_ 21 ?_
       refine zu HT_ 22 ?_
       refine zq HT_ 23 ?_
       refine done_ (done_of HT_.out (by kernel_rfl)) ?_
       try go_wp2
       go_meet
       case rel => exact ⟨_, (true), zi, H', ⟨by have := HJ5.out; have := HK2.out; first | omega | exact Nat.le_refl _⟩, ⟨by (with_reducible repeat (first | apply Kd.R_alloc | apply Kd.R_drewN | apply Kd.R_drew)); exact Kd.R_mono HO_5.out (fun _ hk => ⟨hk.2.1, hk.2.2⟩)⟩, ⟨zh BK201⟩, ⟨zh BK202⟩, ⟨zs2 HB GE201 GE202⟩⟩
      rw [if_pos c88] at H
      have c88b0 : (t215 == (wrap64 ((t203.length : Int) - 1))) = true := beq_iff_eq.mpr c88
      have c88b1 : (t215 != (wrap64 ((t203.length : Int) - 1))) = false := bne_eq_false_iff_eq.mpr c88
      clear c88
      by_cases c89 : 0 < (t203.length : Int)
      rotate_left
      ·rw [if_neg c89] at H
       exact absurd H (by simp)
      rw [if_pos c89] at H
      have c89b0 : decide (0 < (t203.length : Int)) = true := decide_eq_true c89
      have c89b1 : decide (0 < t203.length) = true := decide_eq_true (by omega)
      clear c89
      by_cases c90 : (!(((rd_T24 t203 0).f0) == t197) || (!(((rd_T24 t203 0).f1) == t198))) = true
      ·rw [if_pos c90] at H
       have c90b0 : (!(((rd_T24 t203 0).f0) == t197) || (!(((rd_T24 t203 0).f1) == t198))) = true := c90
       clear c90
       have H' := zA H
       clear H
       try go_wp2
       replace HO_5 := zA (Kd.R_drew HO_5.out)
       replace HO_6 := zA (Kd.R_drew HO_6.out)
       replace BK201 := zA (blk_drew BK201.out)
       replace BK202 := zA (blk_drew BK202.out)
       replace HB := zA (below_drew1 HB.out)
       have p216 : 0 ≤ (0 : Int) := (by omega)
       have q216 : 0 < (t203.length : Int) := za
       obtain ⟨ad216, e216, hx216_0, hx216_1⟩ := at_T24 (Kd.R_reads' HO_5.out).2.2 0 p216 q216
       cases e216
       have qi216 : (0 < t203.length) = True := eq_true (by omega)
       (try rw [zi0] at hx216_0)
       (try rw [show 0 * 2 = 0 from rfl] at hx216_0)
       (try rw [Addr.add_zero'] at hx216_0)
       (try rw [zi0] at hx216_1)
       (try rw [show 0 * 2 = 0 from rfl] at hx216_1)
       (try rw [Addr.add_zero'] at hx216_1)
       replace p216 := eq_true p216
       replace q216 := eq_true q216
       refine start_ (n := 24) (S := fun w' => w'.cell? ⟨gb201, 0, none⟩ = some (.int .i64 t197) ∧ w'.cell? ⟨gb201, 1, none⟩ = some (.int .i64 t198) ∧ w'.cell? ⟨gb202, 0, none⟩ = some (.int .i64 t199) ∧ w'.cell? ⟨gb202, 1, none⟩ = some (.int .i64 t200) ∧ w'.cell? ad216 = some (.int .i64 ((rd_T24 t203 0).f0)) ∧ w'.cell? ⟨ad216.block, ad216.off + 1, none⟩ = some (.int .i64 ((rd_T24 t203 0).f1))) (ds := []) #[F,F,F,F,F,F,F,F,F,F,F,F,F,F,F,F,F,F,F,F,F,F,F,F] (by kernel_rfl) rfl rfl ⟨zc0 BK201, zc1 BK201, zc0 BK202, zc1 BK202, hx216_0, hx216_1⟩ (fun hHeld => ?_); refine with_tabW laws_FnSkyLegs.tab16 laws_FnSkyLegs.bits16 (fun HT_ HW_ => ?_)
       generalize wr.drew = w91 at HO_5 HO_6 BK201 BK202 HB hx216_0 hx216_1 hHeld ⊢
       refine zq HT_ 0 ?_
       refine zq HT_ 1 ?_
       refine zq HT_ 2 ?_
       refine zq HT_ 6 ?_
       refine zk6 HT_ HW_ hHeld 3 ?_
       refine zk6 HT_ HW_ hHeld 4 ?_
       refine zo HT_ 5 (fun K hK => ?_)
       refine zgo Try.func8 #[.agg #[.int .i64 t197, .int .i64 t198], .agg #[.int .i64 t199, .int .i64 t200]] ?_
       with_reducible refine (laws_wmMost.calls t197 t198 t199 t200 t215 _ A87.out).mono ?_
       rintro e w92 ⟨rfl, hb⟩
       have HS4_ := (hb.cell (World.block_lt_of_cell? _ _ (hHeld.2.2.2.2.1))).trans (hHeld.2.2.2.2.1)
       have HS5_ := (hb.cell (World.block_lt_of_cell? _ _ (hHeld.2.2.2.2.2))).trans (hHeld.2.2.2.2.2)
       refine ⟨_, rfl, ?_⟩
       replace HO_5 := zA (Kd.R_below (zr HO_5) hb)
       replace HO_6 := zA (Kd.R_below (zr HO_6) hb)
       replace BK201 := zb BK201 hb
       replace BK202 := zb BK202 hb
       replace HB := zE (zs2 HB GE201 GE202) hb
       (try clear hb)
       (try clear hb2)
       (try clear hk)
       (try clear hi)
       refine hK.out _ _ ⟨zc0 BK201, zc1 BK201, zc0 BK202, zc1 BK202, HS4_, HS5_⟩ (fun hHeld => ?_)
       clear hK K
       refine zN ?_
       refine zq HT_ 7 ?_
       refine zq HT_ 8 ?_
       refine zq HT_ 9 ?_
       refine zq HT_ 10 ?_
       refine zq HT_ 11 ?_
       refine zk6 HT_ HW_ hHeld 12 ?_
       refine zk6 HT_ HW_ hHeld 13 ?_
       refine zq HT_ 14 ?_
       refine zq HT_ 15 ?_
       refine zq HT_ 16 ?_
       refine zu HT_ 17 ?_
       refine zu HT_ 18 ?_
       refine zu HT_ 19 ?_
       refine zu HT_ 20 ?_
       refine zu HT_ 21 ?_
       refine zu HT_ 22 ?_
       refine zq HT_ 23 ?_
       refine done_ (done_of HT_.out (by kernel_rfl)) ?_
       try go_wp2
       go_meet
       case rel => exact ⟨_, (true), zi, H', ⟨by have := HJ5.out; have := HK2.out; first | omega | exact Nat.le_refl _⟩, ⟨by (with_reducible repeat (first | apply Kd.R_alloc | apply Kd.R_drewN | apply Kd.R_drew)); exact Kd.R_mono HO_5.out (fun _ hk => ⟨hk.2.1, hk.2.2⟩)⟩, ⟨zh BK201⟩, ⟨zh BK202⟩, ⟨zs2 HB GE201 GE202⟩⟩
      rw [if_neg c90] at H
      have c90b0 : (!(((rd_T24 t203 0).f0) == t197) || (!(((rd_T24 t203 0).f1) == t198))) = false := by simpa using c90
      clear c90
      obtain ⟨ji93, hji93⟩ : ∃ j_ : Int, (wrap64 ((t203.length : Int) - 1)) = j_ := ⟨_, rfl⟩
      first | rw [hji93] at H | simp only [hji93] at H
      (try rw [hji93] at c86b0)
      (try rw [hji93] at c88b0)
      (try rw [hji93] at c88b1)
      (try rw [hji93] at A87)
      have hji93w : (IntKind.i64.wrap ((t203.length : Int) - 1)) = ji93 := (i64_w _).trans hji93
      by_cases c94 : 0 ≤ (ji93)
      rotate_left
      ·rw [if_neg c94] at H
       exact absurd H (by simp)
      rw [if_pos c94] at H
      have c94b0 : decide (0 ≤ (ji93)) = true := decide_eq_true c94
      clear c94
      by_cases c95 : (ji93) < (t203.length : Int)
      rotate_left
      ·rw [if_neg c95] at H
       exact absurd H (by simp)
      rw [if_pos c95] at H
      have c95b0 : decide ((ji93) < (t203.length : Int)) = true := decide_eq_true c95
      clear c95
      have H' := zA H
      clear H
      try go_wp2
      replace HO_5 := zA (Kd.R_drew HO_5.out)
      replace HO_6 := zA (Kd.R_drew HO_6.out)
      replace BK201 := zA (blk_drew BK201.out)
      replace BK202 := zA (blk_drew BK202.out)
      replace HB := zA (below_drew1 HB.out)
      have p216 : 0 ≤ (0 : Int) := (by omega)
      have q216 : 0 < (t203.length : Int) := za
      obtain ⟨ad216, e216, hx216_0, hx216_1⟩ := at_T24 (Kd.R_reads' HO_5.out).2.2 0 p216 q216
      cases e216
      have qi216 : (0 < t203.length) = True := eq_true (by omega)
      (try rw [zi0] at hx216_0)
      (try rw [show 0 * 2 = 0 from rfl] at hx216_0)
      (try rw [Addr.add_zero'] at hx216_0)
      (try rw [zi0] at hx216_1)
      (try rw [show 0 * 2 = 0 from rfl] at hx216_1)
      (try rw [Addr.add_zero'] at hx216_1)
      replace p216 := eq_true p216
      replace q216 := eq_true q216
      have p217 : 0 ≤ ((ji93) : Int) := za
      have q217 : (ji93) < (t203.length : Int) := za
      obtain ⟨ad217, e217, hx217_0, hx217_1⟩ := at_T24 (Kd.R_reads' HO_5.out).2.2 (ji93) p217 q217
      obtain rfl : ad216 = ad217 := (by injection e217)
      replace p217 := eq_true p217
      replace q217 := eq_true q217
      refine start_ (n := 24) (S := fun w' => w'.cell? ⟨gb201, 0, none⟩ = some (.int .i64 t197) ∧ w'.cell? ⟨gb201, 1, none⟩ = some (.int .i64 t198) ∧ w'.cell? ⟨gb202, 0, none⟩ = some (.int .i64 t199) ∧ w'.cell? ⟨gb202, 1, none⟩ = some (.int .i64 t200) ∧ w'.cell? ad216 = some (.int .i64 ((rd_T24 t203 0).f0)) ∧ w'.cell? ⟨ad216.block, ad216.off + 1, none⟩ = some (.int .i64 ((rd_T24 t203 0).f1)) ∧ w'.cell? (ad216.add (((ji93)).toNat * 2)) = some (.int .i64 ((rd_T24 t203 (ji93)).f0)) ∧ w'.cell? ⟨(ad216.add (((ji93)).toNat * 2)).block, (ad216.add (((ji93)).toNat * 2)).off + 1, none⟩ = some (.int .i64 ((rd_T24 t203 (ji93)).f1))) (ds := []) #[F,F,F,F,F,F,F,F,F,F,F,F,F,F,F,F,F,F,F,F,F,F,F,F] (by kernel_rfl) rfl rfl ⟨zc0 BK201, zc1 BK201, zc0 BK202, zc1 BK202, hx216_0, hx216_1, hx217_0, hx217_1⟩ (fun hHeld => ?_); refine with_tabW laws_FnSkyLegs.tab16 laws_FnSkyLegs.bits16 (fun HT_ HW_ => ?_)
      generalize wr.drew = w96 at HO_5 HO_6 BK201 BK202 HB hx216_0 hx216_1 hx217_0 hx217_1 hHeld ⊢
      refine zq HT_ 0 ?_
      refine zq HT_ 1 ?_
      refine zq HT_ 2 ?_
      refine zq HT_ 6 ?_
      refine zk8 HT_ HW_ hHeld 3 ?_
      refine zk8 HT_ HW_ hHeld 4 ?_
      refine zo HT_ 5 (fun K hK => ?_)
      refine zgo Try.func8 #[.agg #[.int .i64 t197, .int .i64 t198], .agg #[.int .i64 t199, .int .i64 t200]] ?_
      with_reducible refine (laws_wmMost.calls t197 t198 t199 t200 t215 _ A87.out).mono ?_
      rintro e w97 ⟨rfl, hb⟩
      have HS4_ := (hb.cell (World.block_lt_of_cell? _ _ (hHeld.2.2.2.2.1))).trans (hHeld.2.2.2.2.1)
      have HS5_ := (hb.cell (World.block_lt_of_cell? _ _ (hHeld.2.2.2.2.2.1))).trans (hHeld.2.2.2.2.2.1)
      have HS6_ := (hb.cell (World.block_lt_of_cell? _ _ (hHeld.2.2.2.2.2.2.1))).trans (hHeld.2.2.2.2.2.2.1)
      have HS7_ := (hb.cell (World.block_lt_of_cell? _ _ (hHeld.2.2.2.2.2.2.2))).trans (hHeld.2.2.2.2.2.2.2)
      refine ⟨_, rfl, ?_⟩
      replace HO_5 := zA (Kd.R_below (zr HO_5) hb)
      replace HO_6 := zA (Kd.R_below (zr HO_6) hb)
      replace BK201 := zb BK201 hb
      replace BK202 := zb BK202 hb
      replace HB := zE (zs2 HB GE201 GE202) hb
      (try clear hb)
      (try clear hb2)
      (try clear hk)
      (try clear hi)
      refine hK.out _ _ ⟨zc0 BK201, zc1 BK201, zc0 BK202, zc1 BK202, HS4_, HS5_, HS6_, HS7_⟩ (fun hHeld => ?_)
      clear hK K
      refine zN ?_
      refine zq HT_ 7 ?_
      refine zq HT_ 8 ?_
      refine zq HT_ 9 ?_
      refine zq HT_ 10 ?_
      refine zq HT_ 11 ?_
      refine zk8 HT_ HW_ hHeld 12 ?_
      refine zk8 HT_ HW_ hHeld 13 ?_
      refine zq HT_ 14 ?_
      refine zq HT_ 15 ?_
      refine zq HT_ 16 ?_
      refine zq HT_ 17 ?_
      refine zq HT_ 18 ?_
      refine zq HT_ 19 ?_
      refine zk8 HT_ HW_ hHeld 20 ?_
      refine zk8 HT_ HW_ hHeld 21 ?_
      refine zq HT_ 22 ?_
      refine zq HT_ 23 ?_
      refine done_ (done_of HT_.out (by kernel_rfl)) ?_
      try go_wp2
      subst hji93
      go_meet
      case rel => exact ⟨_, ((!(((rd_T24 t203 ((wrap64 ((t203.length : Int) - 1)))).f0) == t199) || (!(((rd_T24 t203 ((wrap64 ((t203.length : Int) - 1)))).f1) == t200)))), (by first | rfl | (simp; done) | ((first | rfl | exact congrArg Value.bool (leq_not _ _) | exact leq_not _ _ | simp)) | (simp [*]; done)), H', ⟨by have := HJ5.out; have := HK2.out; first | omega | exact Nat.le_refl _⟩, ⟨by (with_reducible repeat (first | apply Kd.R_alloc | apply Kd.R_drewN | apply Kd.R_drew)); exact Kd.R_mono HO_5.out (fun _ hk => ⟨hk.2.1, hk.2.2⟩)⟩, ⟨zh BK201⟩, ⟨zh BK202⟩, ⟨zs2 HB GE201 GE202⟩⟩
     case rest => as_aux_lemma =>
      clear HC84
      try clear c1
      try clear p2
      try clear q2
      try clear hx2
      try clear qi2
      try clear p6
      try clear c8
      try clear c10
      try clear p21
      try clear q21
      try clear hx21
      try clear qi21
      try clear p64
      try clear c86
      try clear c86b0
      try clear c100
      try clear c100b0
      try clear c100b1
      try clear c101
      try clear c101b0
      try clear c104
      try clear c104b0
      try clear c105
      try clear c105b0
      try clear hx218_0
      try clear hx218_1
      try clear hx219_0
      try clear hx219_1
      try clear p218
      try clear p219
      try clear q218
      try clear q219
      obtain ⟨kq, x123_83, rfl, HA, HJ83, HO_5, BK201, BK202, HB⟩ := hcut
      cases kq with
      | zero => exact absurd HA.out (by simp [laws_FnSkyLegs.j2])
      | succ kj83 =>
       have H := HA.out
       clear HA
       simp only [laws_FnSkyLegs.j2] at H
       by_cases c107 : x123_83 = true
       ·subst c107
        have H1 : (some false) = some r := by rw [if_pos rfl] at H; exact H
        clear H
        have H := H1
        clear H1
        obtain rfl := Option.some.inj H
        go_wp2
        go_ret
        exact ⟨ze, zs2 HB GE201 GE202⟩
       replace c107 := Bool.eq_false_iff.mpr c107
       subst c107
       have H1 : (laws_FnSkyLegs.l1 kj83 t203 (wrap64 ((t203.length : Int) - 1)) 1 t197 t198 t199 t200) = some r := by rw [if_neg (show ¬ (false = true) by decide)] at H; exact H
       clear H
       have H := H1
       clear H1
       have H' := zA H
       clear H
       go_wp2
       go_loopg [9] kj83 (fun kq v9 w' => ∃ (x9_4 : Int), v9 = .int .i64 x9_4 ∧ Aside0 (laws_FnSkyLegs.l1 kq t203 (wrap64 ((t203.length : Int) - 1)) x9_4 t197 t198 t199 t200 = some r) ∧ Aside0 (kq ≤ kj83) ∧ Aside0 (Kd.R k24 24 w' w.heap.size (fun k_ => k_ ≠ gb201 ∧ k_ ≠ gb202) (.slice Ao85 t203.length co85) t203) ∧ Aside0 (w'.heap[gb201]? = some (.cells #[.int .i64 t197, .int .i64 t198] 24 (0, 0))) ∧ Aside0 (w'.heap[gb202]? = some (.cells #[.int .i64 t199, .int .i64 t200] 24 (0, 0))) ∧ Aside0 (Below w.heap.size w w'))
       case atStart => exact ⟨(1), zi, H', ⟨Nat.le_refl _⟩, ⟨zr HO_5⟩, ⟨zh BK201⟩, ⟨zh BK202⟩, ⟨zs2 HB GE201 GE202⟩⟩
       case round => as_aux_lemma =>
        clear H'
        try clear c1
        try clear p2
        try clear q2
        try clear hx2
        try clear qi2
        try clear p6
        try clear c8
        try clear c10
        try clear p21
        try clear q21
        try clear hx21
        try clear qi21
        try clear p64
        try clear c86
        try clear c86b0
        try clear c100
        try clear c100b0
        try clear c100b1
        try clear c101
        try clear c101b0
        try clear c104
        try clear c104b0
        try clear c105
        try clear c105b0
        try clear c107
        try clear hx218_0
        try clear hx218_1
        try clear hx219_0
        try clear hx219_1
        try clear p2
        try clear p21
        try clear p218
        try clear p219
        try clear p6
        try clear p64
        try clear q2
        try clear q21
        try clear q218
        try clear q219
        obtain ⟨x9_4, rfl, HA, HK4, HO_5, BK201, BK202, HB⟩ := hrel
        cases gk with
        | zero => exact absurd HA.out (by simp [laws_FnSkyLegs.l1])
        | succ k4 =>
         have H := HA.out
         clear HA
         simp only [laws_FnSkyLegs.l1] at H
         by_cases c108 : x9_4 ≤ (wrap64 ((t203.length : Int) - 1))
         rotate_left
         ·rw [if_neg c108] at H
          have c108b0 : decide (x9_4 ≤ (wrap64 ((t203.length : Int) - 1))) = false := decide_eq_false c108
          clear c108
          obtain rfl := Option.some.inj H
          go_wp2
          go_ret
          exact ⟨ze, zs2 HB GE201 GE202⟩
         rw [if_pos c108] at H
         have c108b0 : decide (x9_4 ≤ (wrap64 ((t203.length : Int) - 1))) = true := decide_eq_true c108
         clear c108
         obtain ⟨ji109, hji109⟩ : ∃ j_ : Int, (wrap64 (x9_4 - 1)) = j_ := ⟨_, rfl⟩
         first | rw [hji109] at H | simp only [hji109] at H
         have hji109w : (IntKind.i64.wrap (x9_4 - 1)) = ji109 := (i64_w _).trans hji109
         by_cases c110 : 0 ≤ (ji109)
         rotate_left
         ·rw [if_neg c110] at H
          exact absurd H (by simp)
         rw [if_pos c110] at H
         have c110b0 : decide (0 ≤ (ji109)) = true := decide_eq_true c110
         clear c110
         by_cases c111 : (ji109) < (t203.length : Int)
         rotate_left
         ·rw [if_neg c111] at H
          exact absurd H (by simp)
         rw [if_pos c111] at H
         have c111b0 : decide ((ji109) < (t203.length : Int)) = true := decide_eq_true c111
         clear c111
         by_cases c112 : 0 ≤ x9_4
         rotate_left
         ·rw [if_neg c112] at H
          exact absurd H (by simp)
         rw [if_pos c112] at H
         have c112b0 : decide (0 ≤ x9_4) = true := decide_eq_true c112
         clear c112
         by_cases c113 : x9_4 < (t203.length : Int)
         rotate_left
         ·rw [if_neg c113] at H
          exact absurd H (by simp)
         rw [if_pos c113] at H
         have c113b0 : decide (x9_4 < (t203.length : Int)) = true := decide_eq_true c113
         clear c113
         replace H := zbd H; obtain ⟨t222, A114, H⟩ := H
         by_cases c115 : t222 = 1
         rotate_left
         ·rw [if_neg c115] at H
          have c115b0 : (t222 == 1) = false := beq_eq_false_iff_ne.mpr c115
          have c115b1 : (t222 != 1) = true := bne_iff_ne.mpr c115
          obtain rfl := Option.some.inj H
          try go_wp2
          replace HO_5 := zA (Kd.R_drew HO_5.out)
          replace BK201 := zA (blk_drew BK201.out)
          replace BK202 := zA (blk_drew BK202.out)
          replace HB := zA (below_drew1 HB.out)
          have p220 : 0 ≤ ((ji109) : Int) := za
          have q220 : (ji109) < (t203.length : Int) := za
          obtain ⟨ad220, e220, hx220_0, hx220_1⟩ := at_T24 (Kd.R_reads' HO_5.out).2.2 (ji109) p220 q220
          cases e220
          replace p220 := eq_true p220
          replace q220 := eq_true q220
          have p221 : 0 ≤ (x9_4 : Int) := za
          have q221 : x9_4 < (t203.length : Int) := za
          obtain ⟨ad221, e221, hx221_0, hx221_1⟩ := at_T24 (Kd.R_reads' HO_5.out).2.2 x9_4 p221 q221
          obtain rfl : ad220 = ad221 := (by injection e221)
          replace p221 := eq_true p221
          replace q221 := eq_true q221
          refine start_ (n := 61) (S := fun w' => w'.cell? (ad220.add (((ji109)).toNat * 2)) = some (.int .i64 ((rd_T24 t203 (ji109)).f0)) ∧ w'.cell? ⟨(ad220.add (((ji109)).toNat * 2)).block, (ad220.add (((ji109)).toNat * 2)).off + 1, none⟩ = some (.int .i64 ((rd_T24 t203 (ji109)).f1)) ∧ w'.cell? (ad220.add ((x9_4).toNat * 2)) = some (.int .i64 ((rd_T24 t203 x9_4).f0)) ∧ w'.cell? ⟨(ad220.add ((x9_4).toNat * 2)).block, (ad220.add ((x9_4).toNat * 2)).off + 1, none⟩ = some (.int .i64 ((rd_T24 t203 x9_4).f1))) (ds := []) #[F,F,F,F,F,F,F,F,F,F,F,F,F,F,F,F,F,F,F,F,F,F,F,F,F,F,F,F,F,F,F,F,F,F,F,F,F,F,F,F,F,F,F,F,F,F,F,F,F,F,F,F,F,F,F,F,F,F,F,F,F] (by kernel_rfl) rfl rfl ⟨hx220_0, hx220_1, hx221_0, hx221_1⟩ (fun hHeld => ?_); refine with_tabW laws_FnSkyLegs.tab21 laws_FnSkyLegs.bits21 (fun HT_ HW_ => ?_)
          generalize wr.drew = w126 at HO_5 BK201 BK202 HB hx220_0 hx220_1 hx221_0 hx221_1 hHeld ⊢
          refine zq HT_ 0 ?_
          refine zq HT_ 1 ?_
          refine zq HT_ 2 ?_
          refine zq HT_ 3 ?_
          refine zq HT_ 5 ?_
          refine zq HT_ 6 ?_
          refine zq HT_ 7 ?_
          refine zk4 HT_ HW_ hHeld 4 ?_
          refine zk4 HT_ HW_ hHeld 8 ?_
          refine zo HT_ 9 (fun K hK => ?_)
          refine goes_ Try.func8 (by kernel_rfl) rfl #[.agg #[.int .i64 ((rd_T24 t203 (ji109)).f0), .int .i64 ((rd_T24 t203 (ji109)).f1)], .agg #[.int .i64 ((rd_T24 t203 x9_4).f0), .int .i64 ((rd_T24 t203 x9_4).f1)]] (by rfl) rfl rfl (by (try simp only [List.map_toArray, List.map_cons, List.map_nil]); first | done | (simp only [hji109]; rfl) | rfl | (simp only [List.length_drop, List.length_take]; rfl)) ?_
          with_reducible refine (laws_wmMost.calls ((rd_T24 t203 (ji109)).f0) ((rd_T24 t203 (ji109)).f1) ((rd_T24 t203 x9_4).f0) ((rd_T24 t203 x9_4).f1) t222 _ A114.out).mono ?_
          rintro e w127 ⟨rfl, hb⟩
          have HS0_ := (hb.cell (World.block_lt_of_cell? _ _ (hHeld.1))).trans (hHeld.1)
          have HS1_ := (hb.cell (World.block_lt_of_cell? _ _ (hHeld.2.1))).trans (hHeld.2.1)
          have HS2_ := (hb.cell (World.block_lt_of_cell? _ _ (hHeld.2.2.1))).trans (hHeld.2.2.1)
          have HS3_ := (hb.cell (World.block_lt_of_cell? _ _ (hHeld.2.2.2))).trans (hHeld.2.2.2)
          refine ⟨_, rfl, ?_⟩
          replace HO_5 := zA (Kd.R_below (zr HO_5) hb)
          replace BK201 := zb BK201 hb
          replace BK202 := zb BK202 hb
          replace HB := zE (zs2 HB GE201 GE202) hb
          (try clear hb)
          (try clear hb2)
          (try clear hk)
          (try clear hi)
          refine hK.out _ _ ⟨HS0_, HS1_, HS2_, HS3_⟩ (fun hHeld => ?_)
          clear hK K
          refine zN ?_
          refine zq HT_ 10 ?_
          refine zq HT_ 11 ?_
          refine zu HT_ 12 ?_
          refine zu HT_ 13 ?_
          refine zu HT_ 14 ?_
          refine zu HT_ 15 ?_
          refine zu HT_ 16 ?_
          refine zu HT_ 17 ?_
          refine zu HT_ 18 ?_
          refine zu HT_ 19 ?_
          refine zu HT_ 20 ?_
          refine zu HT_ 21 ?_
          refine zu HT_ 22 ?_
          refine zu HT_ 23 ?_
          refine zu HT_ 24 ?_
          refine zu HT_ 25 ?_
          refine zu HT_ 26 ?_
          refine zu HT_ 27 ?_
          refine zu HT_ 28 ?_
          refine zu HT_ 29 ?_
          refine zu HT_ 30 ?_
          refine zu HT_ 31 ?_
          refine zu HT_ 32 ?_
          refine zu HT_ 33 ?_
          refine zu HT_ 34 ?_
          refine zq HT_ 35 ?_
          refine zq HT_ 36 ?_
          refine zu HT_ 37 ?_
          refine zu HT_ 38 ?_
          refine zu HT_ 39 ?_
          refine zu HT_ 40 ?_
          refine zu HT_ 41 ?_
          refine zu HT_ 42 ?_
          refine zu HT_ 43 ?_
          refine zu HT_ 44 ?_
          refine zu HT_ 45 ?_
          refine zu HT_ 46 ?_
          refine zu HT_ 47 ?_
          refine zu HT_ 48 ?_
          refine zu HT_ 49 ?_
          refine zu HT_ 50 ?_
          refine zu HT_ 51 ?_
          refine zu HT_ 52 ?_
          refine zu HT_ 53 ?_
          refine zu HT_ 54 ?_
          refine zu HT_ 55 ?_
          refine zu HT_ 56 ?_
          refine zu HT_ 57 ?_
          refine zu HT_ 58 ?_
          refine zu HT_ 59 ?_
          refine zq HT_ 60 ?_
          refine done_ (done_of HT_.out (by kernel_rfl)) ?_
          try go_wp2
          go_ret
          exact ⟨by first | rfl | (simp [errW_none, errW_some] <;> rfl) | (simp only [← hji109]; first | rfl | (simp [errW_none, errW_some] <;> rfl)) | (simp [*, errW_none, errW_some] <;> rfl), zs2 HB GE201 GE202⟩
         rw [if_pos c115] at H
         have c115b0 : (t222 == 1) = true := beq_iff_eq.mpr c115
         have c115b1 : (t222 != 1) = false := bne_eq_false_iff_eq.mpr c115
         clear c115
         replace H := zbd H; obtain ⟨t224, A116, H⟩ := H
         by_cases c117 : t224 > (wrap64 ((t203.length : Int) - 1))
         ·rw [if_pos c117] at H
          have c117b0 : decide ((wrap64 ((t203.length : Int) - 1)) < t224) = true := decide_eq_true c117
          clear c117
          obtain rfl := Option.some.inj H
          try go_wp2
          replace HO_5 := zA (Kd.R_drew HO_5.out)
          replace BK201 := zA (blk_drew BK201.out)
          replace BK202 := zA (blk_drew BK202.out)
          replace HB := zA (below_drew1 HB.out)
          have p220 : 0 ≤ ((ji109) : Int) := za
          have q220 : (ji109) < (t203.length : Int) := za
          obtain ⟨ad220, e220, hx220_0, hx220_1⟩ := at_T24 (Kd.R_reads' HO_5.out).2.2 (ji109) p220 q220
          cases e220
          replace p220 := eq_true p220
          replace q220 := eq_true q220
          have p221 : 0 ≤ (x9_4 : Int) := za
          have q221 : x9_4 < (t203.length : Int) := za
          obtain ⟨ad221, e221, hx221_0, hx221_1⟩ := at_T24 (Kd.R_reads' HO_5.out).2.2 x9_4 p221 q221
          obtain rfl : ad220 = ad221 := (by injection e221)
          replace p221 := eq_true p221
          replace q221 := eq_true q221
          have p223 : 0 ≤ (x9_4 : Int) := za
          have q223 : x9_4 < (t203.length : Int) := za
          obtain ⟨ad223, e223, hx223_0, hx223_1⟩ := at_T24 (Kd.R_reads' HO_5.out).2.2 x9_4 p223 q223
          obtain rfl : ad220 = ad223 := (by injection e223)
          replace p223 := eq_true p223
          replace q223 := eq_true q223
          refine start_ (n := 61) (S := fun w' => w'.cell? ⟨gb201, 0, none⟩ = some (.int .i64 t197) ∧ w'.cell? ⟨gb201, 1, none⟩ = some (.int .i64 t198) ∧ w'.cell? ⟨gb202, 0, none⟩ = some (.int .i64 t199) ∧ w'.cell? ⟨gb202, 1, none⟩ = some (.int .i64 t200) ∧ w'.cell? (ad220.add (((ji109)).toNat * 2)) = some (.int .i64 ((rd_T24 t203 (ji109)).f0)) ∧ w'.cell? ⟨(ad220.add (((ji109)).toNat * 2)).block, (ad220.add (((ji109)).toNat * 2)).off + 1, none⟩ = some (.int .i64 ((rd_T24 t203 (ji109)).f1)) ∧ w'.cell? (ad220.add ((x9_4).toNat * 2)) = some (.int .i64 ((rd_T24 t203 x9_4).f0)) ∧ w'.cell? ⟨(ad220.add ((x9_4).toNat * 2)).block, (ad220.add ((x9_4).toNat * 2)).off + 1, none⟩ = some (.int .i64 ((rd_T24 t203 x9_4).f1)) ∧ w'.cell? (ad220.add ((x9_4).toNat * 2)) = some (.int .i64 ((rd_T24 t203 x9_4).f0)) ∧ w'.cell? ⟨(ad220.add ((x9_4).toNat * 2)).block, (ad220.add ((x9_4).toNat * 2)).off + 1, none⟩ = some (.int .i64 ((rd_T24 t203 x9_4).f1))) (ds := []) #[F,F,F,F,F,F,F,F,F,F,F,F,F,F,F,F,F,F,F,F,F,F,F,F,F,F,F,F,F,F,F,F,F,F,F,F,F,F,F,F,F,F,F,F,F,F,F,F,F,F,F,F,F,F,F,F,F,F,F,F,F] (by kernel_rfl) rfl rfl ⟨zc0 BK201, zc1 BK201, zc0 BK202, zc1 BK202, hx220_0, hx220_1, hx221_0, hx221_1, hx223_0, hx223_1⟩ (fun hHeld => ?_); refine with_tabW laws_FnSkyLegs.tab21 laws_FnSkyLegs.bits21 (fun HT_ HW_ => ?_)
          generalize wr.drew = w118 at HO_5 BK201 BK202 HB hx220_0 hx220_1 hx221_0 hx221_1 hx223_0 hx223_1 hHeld ⊢
          refine zq HT_ 0 ?_
          refine zq HT_ 1 ?_
          refine zq HT_ 2 ?_
          refine zq HT_ 3 ?_
          refine zq HT_ 5 ?_
          refine zq HT_ 6 ?_
          refine zq HT_ 7 ?_
          refine zk10 HT_ HW_ hHeld 4 ?_
          refine zk10 HT_ HW_ hHeld 8 ?_
          refine zo HT_ 9 (fun K hK => ?_)
          refine goes_ Try.func8 (by kernel_rfl) rfl #[.agg #[.int .i64 ((rd_T24 t203 (ji109)).f0), .int .i64 ((rd_T24 t203 (ji109)).f1)], .agg #[.int .i64 ((rd_T24 t203 x9_4).f0), .int .i64 ((rd_T24 t203 x9_4).f1)]] (by rfl) rfl rfl (by (try simp only [List.map_toArray, List.map_cons, List.map_nil]); first | done | (simp only [hji109]; rfl) | rfl | (simp only [List.length_drop, List.length_take]; rfl)) ?_
          with_reducible refine (laws_wmMost.calls ((rd_T24 t203 (ji109)).f0) ((rd_T24 t203 (ji109)).f1) ((rd_T24 t203 x9_4).f0) ((rd_T24 t203 x9_4).f1) t222 _ A114.out).mono ?_
          rintro e w119 ⟨rfl, hb⟩
          have HS4_ := (hb.cell (World.block_lt_of_cell? _ _ (hHeld.2.2.2.2.1))).trans (hHeld.2.2.2.2.1)
          have HS5_ := (hb.cell (World.block_lt_of_cell? _ _ (hHeld.2.2.2.2.2.1))).trans (hHeld.2.2.2.2.2.1)
          have HS6_ := (hb.cell (World.block_lt_of_cell? _ _ (hHeld.2.2.2.2.2.2.1))).trans (hHeld.2.2.2.2.2.2.1)
          have HS7_ := (hb.cell (World.block_lt_of_cell? _ _ (hHeld.2.2.2.2.2.2.2.1))).trans (hHeld.2.2.2.2.2.2.2.1)
          have HS8_ := (hb.cell (World.block_lt_of_cell? _ _ (hHeld.2.2.2.2.2.2.2.2.1))).trans (hHeld.2.2.2.2.2.2.2.2.1)
          have HS9_ := (hb.cell (World.block_lt_of_cell? _ _ (hHeld.2.2.2.2.2.2.2.2.2))).trans (hHeld.2.2.2.2.2.2.2.2.2)
          refine ⟨_, rfl, ?_⟩
          replace HO_5 := zA (Kd.R_below (zr HO_5) hb)
          replace BK201 := zb BK201 hb
          replace BK202 := zb BK202 hb
          replace HB := zE (zs2 HB GE201 GE202) hb
          (try clear hb)
          (try clear hb2)
          (try clear hk)
          (try clear hi)
          refine hK.out _ _ ⟨zc0 BK201, zc1 BK201, zc0 BK202, zc1 BK202, HS4_, HS5_, HS6_, HS7_, HS8_, HS9_⟩ (fun hHeld => ?_)
          clear hK K
          refine zN ?_
          refine zq HT_ 10 ?_
          refine zq HT_ 11 ?_
          refine zq HT_ 12 ?_
          refine zq HT_ 13 ?_
          refine zq HT_ 14 ?_
          refine zq HT_ 15 ?_
          refine zq HT_ 16 ?_
          refine zq HT_ 17 ?_
          refine zq HT_ 19 ?_
          refine zq HT_ 23 ?_
          refine zq HT_ 24 ?_
          refine zq HT_ 25 ?_
          refine zq HT_ 27 ?_
          refine zq HT_ 33 ?_
          refine zk10 HT_ HW_ hHeld 18 ?_
          refine zk10 HT_ HW_ hHeld 20 ?_
          refine zq HT_ 21 ?_
          refine zq HT_ 22 ?_
          refine zk10 HT_ HW_ hHeld 26 ?_
          refine zk10 HT_ HW_ hHeld 28 ?_
          refine zq HT_ 29 ?_
          refine zq HT_ 30 ?_
          refine zq HT_ 31 ?_
          refine zo HT_ 32 (fun K hK => ?_)
          refine zgo Try.func9 #[.int .i64 (wrap64 ((wrap64 ((wrap64 (2 * (wrap64 ((t203.length : Int) - 1)))) * (wrap64 (((rd_T24 t203 x9_4).f0) - t197)))) - (wrap64 ((wrap64 (2 * x9_4)) * (wrap64 (t199 - t197))))))] ?_
          with_reducible refine (laws_wmAbs.calls (wrap64 ((wrap64 ((wrap64 (2 * (wrap64 ((t203.length : Int) - 1)))) * (wrap64 (((rd_T24 t203 x9_4).f0) - t197)))) - (wrap64 ((wrap64 (2 * x9_4)) * (wrap64 (t199 - t197)))))) t224 _ A116.out).mono ?_
          rintro e w' ⟨rfl, ⟨nd, rfl⟩⟩
          refine ⟨_, rfl, ?_⟩
          refine hK.out _ _ ⟨zc0 BK201, zc1 BK201, zc0 BK202, zc1 BK202, hHeld.2.2.2.2⟩ (fun hHeld => ?_)
          clear hK K
          refine zN ?_
          refine zq HT_ 34 ?_
          refine zq HT_ 35 ?_
          refine zq HT_ 36 ?_
          refine zu HT_ 37 ?_
          refine zu HT_ 38 ?_
          refine zu HT_ 39 ?_
          refine zu HT_ 40 ?_
          refine zu HT_ 41 ?_
          refine zu HT_ 42 ?_
          refine zu HT_ 43 ?_
          refine zu HT_ 44 ?_
          refine zu HT_ 45 ?_
          refine zu HT_ 46 ?_
          refine zu HT_ 47 ?_
          refine zu HT_ 48 ?_
          refine zu HT_ 49 ?_
          refine zu HT_ 50 ?_
          refine zu HT_ 51 ?_
          refine zu HT_ 52 ?_
          refine zu HT_ 53 ?_
          refine zu HT_ 54 ?_
          refine zu HT_ 55 ?_
          refine zu HT_ 56 ?_
          refine zu HT_ 57 ?_
          refine zu HT_ 58 ?_
          refine zu HT_ 59 ?_
          refine zq HT_ 60 ?_
          refine done_ (done_of HT_.out (by kernel_rfl)) ?_
          try go_wp2
          go_ret
          exact ⟨by first | rfl | (simp [errW_none, errW_some] <;> rfl) | (simp only [← hji109]; first | rfl | (simp [errW_none, errW_some] <;> rfl)) | (simp [*, errW_none, errW_some] <;> rfl), zs2 HB GE201 GE202⟩
         rw [if_neg c117] at H
         have c117b0 : decide ((wrap64 ((t203.length : Int) - 1)) < t224) = false := decide_eq_false c117
         clear c117
         replace H := zbd H; obtain ⟨t226, A120, H⟩ := H
         by_cases c121 : t226 > (wrap64 ((t203.length : Int) - 1))
         ·rw [if_pos c121] at H
          have c121b0 : decide ((wrap64 ((t203.length : Int) - 1)) < t226) = true := decide_eq_true c121
          clear c121
          obtain rfl := Option.some.inj H
          try go_wp2
          replace HO_5 := zA (Kd.R_drew HO_5.out)
          replace BK201 := zA (blk_drew BK201.out)
          replace BK202 := zA (blk_drew BK202.out)
          replace HB := zA (below_drew1 HB.out)
          have p220 : 0 ≤ ((ji109) : Int) := za
          have q220 : (ji109) < (t203.length : Int) := za
          obtain ⟨ad220, e220, hx220_0, hx220_1⟩ := at_T24 (Kd.R_reads' HO_5.out).2.2 (ji109) p220 q220
          cases e220
          replace p220 := eq_true p220
          replace q220 := eq_true q220
          have p221 : 0 ≤ (x9_4 : Int) := za
          have q221 : x9_4 < (t203.length : Int) := za
          obtain ⟨ad221, e221, hx221_0, hx221_1⟩ := at_T24 (Kd.R_reads' HO_5.out).2.2 x9_4 p221 q221
          obtain rfl : ad220 = ad221 := (by injection e221)
          replace p221 := eq_true p221
          replace q221 := eq_true q221
          have p223 : 0 ≤ (x9_4 : Int) := za
          have q223 : x9_4 < (t203.length : Int) := za
          obtain ⟨ad223, e223, hx223_0, hx223_1⟩ := at_T24 (Kd.R_reads' HO_5.out).2.2 x9_4 p223 q223
          obtain rfl : ad220 = ad223 := (by injection e223)
          replace p223 := eq_true p223
          replace q223 := eq_true q223
          have p225 : 0 ≤ (x9_4 : Int) := za
          have q225 : x9_4 < (t203.length : Int) := za
          obtain ⟨ad225, e225, hx225_0, hx225_1⟩ := at_T24 (Kd.R_reads' HO_5.out).2.2 x9_4 p225 q225
          obtain rfl : ad220 = ad225 := (by injection e225)
          replace p225 := eq_true p225
          replace q225 := eq_true q225
          refine start_ (n := 61) (S := fun w' => w'.cell? ⟨gb201, 0, none⟩ = some (.int .i64 t197) ∧ w'.cell? ⟨gb201, 1, none⟩ = some (.int .i64 t198) ∧ w'.cell? ⟨gb202, 0, none⟩ = some (.int .i64 t199) ∧ w'.cell? ⟨gb202, 1, none⟩ = some (.int .i64 t200) ∧ w'.cell? (ad220.add (((ji109)).toNat * 2)) = some (.int .i64 ((rd_T24 t203 (ji109)).f0)) ∧ w'.cell? ⟨(ad220.add (((ji109)).toNat * 2)).block, (ad220.add (((ji109)).toNat * 2)).off + 1, none⟩ = some (.int .i64 ((rd_T24 t203 (ji109)).f1)) ∧ w'.cell? (ad220.add ((x9_4).toNat * 2)) = some (.int .i64 ((rd_T24 t203 x9_4).f0)) ∧ w'.cell? ⟨(ad220.add ((x9_4).toNat * 2)).block, (ad220.add ((x9_4).toNat * 2)).off + 1, none⟩ = some (.int .i64 ((rd_T24 t203 x9_4).f1)) ∧ w'.cell? (ad220.add ((x9_4).toNat * 2)) = some (.int .i64 ((rd_T24 t203 x9_4).f0)) ∧ w'.cell? ⟨(ad220.add ((x9_4).toNat * 2)).block, (ad220.add ((x9_4).toNat * 2)).off + 1, none⟩ = some (.int .i64 ((rd_T24 t203 x9_4).f1)) ∧ w'.cell? (ad220.add ((x9_4).toNat * 2)) = some (.int .i64 ((rd_T24 t203 x9_4).f0)) ∧ w'.cell? ⟨(ad220.add ((x9_4).toNat * 2)).block, (ad220.add ((x9_4).toNat * 2)).off + 1, none⟩ = some (.int .i64 ((rd_T24 t203 x9_4).f1))) (ds := []) #[F,F,F,F,F,F,F,F,F,F,F,F,F,F,F,F,F,F,F,F,F,F,F,F,F,F,F,F,F,F,F,F,F,F,F,F,F,F,F,F,F,F,F,F,F,F,F,F,F,F,F,F,F,F,F,F,F,F,F,F,F] (by kernel_rfl) rfl rfl ⟨zc0 BK201, zc1 BK201, zc0 BK202, zc1 BK202, hx220_0, hx220_1, hx221_0, hx221_1, hx223_0, hx223_1, hx225_0, hx225_1⟩ (fun hHeld => ?_); refine with_tabW laws_FnSkyLegs.tab21 laws_FnSkyLegs.bits21 (fun HT_ HW_ => ?_)
          generalize wr.drew = w122 at HO_5 BK201 BK202 HB hx220_0 hx220_1 hx221_0 hx221_1 hx223_0 hx223_1 hx225_0 hx225_1 hHeld ⊢
          refine zq HT_ 0 ?_
          refine zq HT_ 1 ?_
          refine zq HT_ 2 ?_
          refine zq HT_ 3 ?_
          refine zq HT_ 5 ?_
          refine zq HT_ 6 ?_
          refine zq HT_ 7 ?_
          refine zk12 HT_ HW_ hHeld 4 ?_
          refine zk12 HT_ HW_ hHeld 8 ?_
          refine zo HT_ 9 (fun K hK => ?_)
          refine goes_ Try.func8 (by kernel_rfl) rfl #[.agg #[.int .i64 ((rd_T24 t203 (ji109)).f0), .int .i64 ((rd_T24 t203 (ji109)).f1)], .agg #[.int .i64 ((rd_T24 t203 x9_4).f0), .int .i64 ((rd_T24 t203 x9_4).f1)]] (by rfl) rfl rfl (by (try simp only [List.map_toArray, List.map_cons, List.map_nil]); first | done | (simp only [hji109]; rfl) | rfl | (simp only [List.length_drop, List.length_take]; rfl)) ?_
          with_reducible refine (laws_wmMost.calls ((rd_T24 t203 (ji109)).f0) ((rd_T24 t203 (ji109)).f1) ((rd_T24 t203 x9_4).f0) ((rd_T24 t203 x9_4).f1) t222 _ A114.out).mono ?_
          rintro e w123 ⟨rfl, hb⟩
          have HS4_ := (hb.cell (World.block_lt_of_cell? _ _ (hHeld.2.2.2.2.1))).trans (hHeld.2.2.2.2.1)
          have HS5_ := (hb.cell (World.block_lt_of_cell? _ _ (hHeld.2.2.2.2.2.1))).trans (hHeld.2.2.2.2.2.1)
          have HS6_ := (hb.cell (World.block_lt_of_cell? _ _ (hHeld.2.2.2.2.2.2.1))).trans (hHeld.2.2.2.2.2.2.1)
          have HS7_ := (hb.cell (World.block_lt_of_cell? _ _ (hHeld.2.2.2.2.2.2.2.1))).trans (hHeld.2.2.2.2.2.2.2.1)
          have HS8_ := (hb.cell (World.block_lt_of_cell? _ _ (hHeld.2.2.2.2.2.2.2.2.1))).trans (hHeld.2.2.2.2.2.2.2.2.1)
          have HS9_ := (hb.cell (World.block_lt_of_cell? _ _ (hHeld.2.2.2.2.2.2.2.2.2.1))).trans (hHeld.2.2.2.2.2.2.2.2.2.1)
          have HS10_ := (hb.cell (World.block_lt_of_cell? _ _ (hHeld.2.2.2.2.2.2.2.2.2.2.1))).trans (hHeld.2.2.2.2.2.2.2.2.2.2.1)
          have HS11_ := (hb.cell (World.block_lt_of_cell? _ _ (hHeld.2.2.2.2.2.2.2.2.2.2.2))).trans (hHeld.2.2.2.2.2.2.2.2.2.2.2)
          refine ⟨_, rfl, ?_⟩
          replace HO_5 := zA (Kd.R_below (zr HO_5) hb)
          replace BK201 := zb BK201 hb
          replace BK202 := zb BK202 hb
          replace HB := zE (zs2 HB GE201 GE202) hb
          (try clear hb)
          (try clear hb2)
          (try clear hk)
          (try clear hi)
          refine hK.out _ _ ⟨zc0 BK201, zc1 BK201, zc0 BK202, zc1 BK202, HS4_, HS5_, HS6_, HS7_, HS8_, HS9_, HS10_, HS11_⟩ (fun hHeld => ?_)
          clear hK K
          refine zN ?_
          refine zq HT_ 10 ?_
          refine zq HT_ 11 ?_
          refine zq HT_ 12 ?_
          refine zq HT_ 13 ?_
          refine zq HT_ 14 ?_
          refine zq HT_ 15 ?_
          refine zq HT_ 16 ?_
          refine zq HT_ 17 ?_
          refine zq HT_ 19 ?_
          refine zq HT_ 23 ?_
          refine zq HT_ 24 ?_
          refine zq HT_ 25 ?_
          refine zq HT_ 27 ?_
          refine zq HT_ 33 ?_
          refine zk12 HT_ HW_ hHeld 18 ?_
          refine zk12 HT_ HW_ hHeld 20 ?_
          refine zq HT_ 21 ?_
          refine zq HT_ 22 ?_
          refine zk12 HT_ HW_ hHeld 26 ?_
          refine zk12 HT_ HW_ hHeld 28 ?_
          refine zq HT_ 29 ?_
          refine zq HT_ 30 ?_
          refine zq HT_ 31 ?_
          refine zo HT_ 32 (fun K hK => ?_)
          refine zgo Try.func9 #[.int .i64 (wrap64 ((wrap64 ((wrap64 (2 * (wrap64 ((t203.length : Int) - 1)))) * (wrap64 (((rd_T24 t203 x9_4).f0) - t197)))) - (wrap64 ((wrap64 (2 * x9_4)) * (wrap64 (t199 - t197))))))] ?_
          with_reducible refine (laws_wmAbs.calls (wrap64 ((wrap64 ((wrap64 (2 * (wrap64 ((t203.length : Int) - 1)))) * (wrap64 (((rd_T24 t203 x9_4).f0) - t197)))) - (wrap64 ((wrap64 (2 * x9_4)) * (wrap64 (t199 - t197)))))) t224 _ A116.out).mono ?_
          rintro e w' ⟨rfl, ⟨nd, rfl⟩⟩
          refine ⟨_, rfl, ?_⟩
          refine hK.out _ _ ⟨zc0 BK201, zc1 BK201, zc0 BK202, zc1 BK202, hHeld.2.2.2.2⟩ (fun hHeld => ?_)
          clear hK K
          refine zN ?_
          refine zq HT_ 34 ?_
          refine zq HT_ 35 ?_
          refine zq HT_ 36 ?_
          refine zq HT_ 37 ?_
          refine zq HT_ 38 ?_
          refine zq HT_ 39 ?_
          refine zq HT_ 40 ?_
          refine zq HT_ 41 ?_
          refine zq HT_ 42 ?_
          refine zq HT_ 44 ?_
          refine zq HT_ 48 ?_
          refine zq HT_ 49 ?_
          refine zq HT_ 50 ?_
          refine zq HT_ 52 ?_
          refine zq HT_ 58 ?_
          refine zk12 HT_ HW_ hHeld 43 ?_
          refine zk12 HT_ HW_ hHeld 45 ?_
          refine zq HT_ 46 ?_
          refine zq HT_ 47 ?_
          refine zk12 HT_ HW_ hHeld 51 ?_
          refine zk12 HT_ HW_ hHeld 53 ?_
          refine zq HT_ 54 ?_
          refine zq HT_ 55 ?_
          refine zq HT_ 56 ?_
          refine zo HT_ 57 (fun K hK => ?_)
          refine zgo Try.func9 #[.int .i64 (wrap64 ((wrap64 ((wrap64 (2 * (wrap64 ((t203.length : Int) - 1)))) * (wrap64 (((rd_T24 t203 x9_4).f1) - t198)))) - (wrap64 ((wrap64 (2 * x9_4)) * (wrap64 (t200 - t198))))))] ?_
          with_reducible refine (laws_wmAbs.calls (wrap64 ((wrap64 ((wrap64 (2 * (wrap64 ((t203.length : Int) - 1)))) * (wrap64 (((rd_T24 t203 x9_4).f1) - t198)))) - (wrap64 ((wrap64 (2 * x9_4)) * (wrap64 (t200 - t198)))))) t226 _ A120.out).mono ?_
          rintro e w' ⟨rfl, ⟨nd, rfl⟩⟩
          refine ⟨_, rfl, ?_⟩
          refine hK.out _ _ ⟨zc0 BK201, zc1 BK201, zc0 BK202, zc1 BK202, hHeld.2.2.2.2⟩ (fun hHeld => ?_)
          clear hK K
          refine zN ?_
          refine zq HT_ 59 ?_
          refine zq HT_ 60 ?_
          refine done_ (done_of HT_.out (by kernel_rfl)) ?_
          try go_wp2
          go_ret
          exact ⟨by first | rfl | (simp [errW_none, errW_some] <;> rfl) | (simp only [← hji109]; first | rfl | (simp [errW_none, errW_some] <;> rfl)) | (simp [*, errW_none, errW_some] <;> rfl), zs2 HB GE201 GE202⟩
         rw [if_neg c121] at H
         have c121b0 : decide ((wrap64 ((t203.length : Int) - 1)) < t226) = false := decide_eq_false c121
         clear c121
         have H' := zA H
         clear H
         try go_wp2
         replace HO_5 := zA (Kd.R_drew HO_5.out)
         replace BK201 := zA (blk_drew BK201.out)
         replace BK202 := zA (blk_drew BK202.out)
         replace HB := zA (below_drew1 HB.out)
         have p220 : 0 ≤ ((ji109) : Int) := za
         have q220 : (ji109) < (t203.length : Int) := za
         obtain ⟨ad220, e220, hx220_0, hx220_1⟩ := at_T24 (Kd.R_reads' HO_5.out).2.2 (ji109) p220 q220
         cases e220
         replace p220 := eq_true p220
         replace q220 := eq_true q220
         have p221 : 0 ≤ (x9_4 : Int) := za
         have q221 : x9_4 < (t203.length : Int) := za
         obtain ⟨ad221, e221, hx221_0, hx221_1⟩ := at_T24 (Kd.R_reads' HO_5.out).2.2 x9_4 p221 q221
         obtain rfl : ad220 = ad221 := (by injection e221)
         replace p221 := eq_true p221
         replace q221 := eq_true q221
         have p223 : 0 ≤ (x9_4 : Int) := za
         have q223 : x9_4 < (t203.length : Int) := za
         obtain ⟨ad223, e223, hx223_0, hx223_1⟩ := at_T24 (Kd.R_reads' HO_5.out).2.2 x9_4 p223 q223
         obtain rfl : ad220 = ad223 := (by injection e223)
         replace p223 := eq_true p223
         replace q223 := eq_true q223
         have p225 : 0 ≤ (x9_4 : Int) := za
         have q225 : x9_4 < (t203.length : Int) := za
         obtain ⟨ad225, e225, hx225_0, hx225_1⟩ := at_T24 (Kd.R_reads' HO_5.out).2.2 x9_4 p225 q225
         obtain rfl : ad220 = ad225 := (by injection e225)
         replace p225 := eq_true p225
         replace q225 := eq_true q225
         refine start_ (n := 61) (S := fun w' => w'.cell? ⟨gb201, 0, none⟩ = some (.int .i64 t197) ∧ w'.cell? ⟨gb201, 1, none⟩ = some (.int .i64 t198) ∧ w'.cell? ⟨gb202, 0, none⟩ = some (.int .i64 t199) ∧ w'.cell? ⟨gb202, 1, none⟩ = some (.int .i64 t200) ∧ w'.cell? (ad220.add (((ji109)).toNat * 2)) = some (.int .i64 ((rd_T24 t203 (ji109)).f0)) ∧ w'.cell? ⟨(ad220.add (((ji109)).toNat * 2)).block, (ad220.add (((ji109)).toNat * 2)).off + 1, none⟩ = some (.int .i64 ((rd_T24 t203 (ji109)).f1)) ∧ w'.cell? (ad220.add ((x9_4).toNat * 2)) = some (.int .i64 ((rd_T24 t203 x9_4).f0)) ∧ w'.cell? ⟨(ad220.add ((x9_4).toNat * 2)).block, (ad220.add ((x9_4).toNat * 2)).off + 1, none⟩ = some (.int .i64 ((rd_T24 t203 x9_4).f1)) ∧ w'.cell? (ad220.add ((x9_4).toNat * 2)) = some (.int .i64 ((rd_T24 t203 x9_4).f0)) ∧ w'.cell? ⟨(ad220.add ((x9_4).toNat * 2)).block, (ad220.add ((x9_4).toNat * 2)).off + 1, none⟩ = some (.int .i64 ((rd_T24 t203 x9_4).f1)) ∧ w'.cell? (ad220.add ((x9_4).toNat * 2)) = some (.int .i64 ((rd_T24 t203 x9_4).f0)) ∧ w'.cell? ⟨(ad220.add ((x9_4).toNat * 2)).block, (ad220.add ((x9_4).toNat * 2)).off + 1, none⟩ = some (.int .i64 ((rd_T24 t203 x9_4).f1))) (ds := []) #[F,F,F,F,F,F,F,F,F,F,F,F,F,F,F,F,F,F,F,F,F,F,F,F,F,F,F,F,F,F,F,F,F,F,F,F,F,F,F,F,F,F,F,F,F,F,F,F,F,F,F,F,F,F,F,F,F,F,F,F,F] (by kernel_rfl) rfl rfl ⟨zc0 BK201, zc1 BK201, zc0 BK202, zc1 BK202, hx220_0, hx220_1, hx221_0, hx221_1, hx223_0, hx223_1, hx225_0, hx225_1⟩ (fun hHeld => ?_); refine with_tabW laws_FnSkyLegs.tab21 laws_FnSkyLegs.bits21 (fun HT_ HW_ => ?_)
         generalize wr.drew = w124 at HO_5 BK201 BK202 HB hx220_0 hx220_1 hx221_0 hx221_1 hx223_0 hx223_1 hx225_0 hx225_1 hHeld ⊢
         refine zq HT_ 0 ?_
         refine zq HT_ 1 ?_
         refine zq HT_ 2 ?_
         refine zq HT_ 3 ?_
         refine zq HT_ 5 ?_
         refine zq HT_ 6 ?_
         refine zq HT_ 7 ?_
         refine zk12 HT_ HW_ hHeld 4 ?_
         refine zk12 HT_ HW_ hHeld 8 ?_
         refine zo HT_ 9 (fun K hK => ?_)
         refine goes_ Try.func8 (by kernel_rfl) rfl #[.agg #[.int .i64 ((rd_T24 t203 (ji109)).f0), .int .i64 ((rd_T24 t203 (ji109)).f1)], .agg #[.int .i64 ((rd_T24 t203 x9_4).f0), .int .i64 ((rd_T24 t203 x9_4).f1)]] (by rfl) rfl rfl (by (try simp only [List.map_toArray, List.map_cons, List.map_nil]); first | done | (simp only [hji109]; rfl) | rfl | (simp only [List.length_drop, List.length_take]; rfl)) ?_
         with_reducible refine (laws_wmMost.calls ((rd_T24 t203 (ji109)).f0) ((rd_T24 t203 (ji109)).f1) ((rd_T24 t203 x9_4).f0) ((rd_T24 t203 x9_4).f1) t222 _ A114.out).mono ?_
         rintro e w125 ⟨rfl, hb⟩
         have HS4_ := (hb.cell (World.block_lt_of_cell? _ _ (hHeld.2.2.2.2.1))).trans (hHeld.2.2.2.2.1)
         have HS5_ := (hb.cell (World.block_lt_of_cell? _ _ (hHeld.2.2.2.2.2.1))).trans (hHeld.2.2.2.2.2.1)
         have HS6_ := (hb.cell (World.block_lt_of_cell? _ _ (hHeld.2.2.2.2.2.2.1))).trans (hHeld.2.2.2.2.2.2.1)
         have HS7_ := (hb.cell (World.block_lt_of_cell? _ _ (hHeld.2.2.2.2.2.2.2.1))).trans (hHeld.2.2.2.2.2.2.2.1)
         have HS8_ := (hb.cell (World.block_lt_of_cell? _ _ (hHeld.2.2.2.2.2.2.2.2.1))).trans (hHeld.2.2.2.2.2.2.2.2.1)
         have HS9_ := (hb.cell (World.block_lt_of_cell? _ _ (hHeld.2.2.2.2.2.2.2.2.2.1))).trans (hHeld.2.2.2.2.2.2.2.2.2.1)
         have HS10_ := (hb.cell (World.block_lt_of_cell? _ _ (hHeld.2.2.2.2.2.2.2.2.2.2.1))).trans (hHeld.2.2.2.2.2.2.2.2.2.2.1)
         have HS11_ := (hb.cell (World.block_lt_of_cell? _ _ (hHeld.2.2.2.2.2.2.2.2.2.2.2))).trans (hHeld.2.2.2.2.2.2.2.2.2.2.2)
         refine ⟨_, rfl, ?_⟩
         replace HO_5 := zA (Kd.R_below (zr HO_5) hb)
         replace BK201 := zb BK201 hb
         replace BK202 := zb BK202 hb
         replace HB := zE (zs2 HB GE201 GE202) hb
         (try clear hb)
         (try clear hb2)
         (try clear hk)
         (try clear hi)
         refine hK.out _ _ ⟨zc0 BK201, zc1 BK201, zc0 BK202, zc1 BK202, HS4_, HS5_, HS6_, HS7_, HS8_, HS9_, HS10_, HS11_⟩ (fun hHeld => ?_)
         clear hK K
         refine zN ?_
         refine zq HT_ 10 ?_
         refine zq HT_ 11 ?_
         refine zq HT_ 12 ?_
         refine zq HT_ 13 ?_
         refine zq HT_ 14 ?_
         refine zq HT_ 15 ?_
         refine zq HT_ 16 ?_
         refine zq HT_ 17 ?_
         refine zq HT_ 19 ?_
         refine zq HT_ 23 ?_
         refine zq HT_ 24 ?_
         refine zq HT_ 25 ?_
         refine zq HT_ 27 ?_
         refine zq HT_ 33 ?_
         refine zk12 HT_ HW_ hHeld 18 ?_
         refine zk12 HT_ HW_ hHeld 20 ?_
         refine zq HT_ 21 ?_
         refine zq HT_ 22 ?_
         refine zk12 HT_ HW_ hHeld 26 ?_
         refine zk12 HT_ HW_ hHeld 28 ?_
         refine zq HT_ 29 ?_
         refine zq HT_ 30 ?_
         refine zq HT_ 31 ?_
         refine zo HT_ 32 (fun K hK => ?_)
         refine zgo Try.func9 #[.int .i64 (wrap64 ((wrap64 ((wrap64 (2 * (wrap64 ((t203.length : Int) - 1)))) * (wrap64 (((rd_T24 t203 x9_4).f0) - t197)))) - (wrap64 ((wrap64 (2 * x9_4)) * (wrap64 (t199 - t197))))))] ?_
         with_reducible refine (laws_wmAbs.calls (wrap64 ((wrap64 ((wrap64 (2 * (wrap64 ((t203.length : Int) - 1)))) * (wrap64 (((rd_T24 t203 x9_4).f0) - t197)))) - (wrap64 ((wrap64 (2 * x9_4)) * (wrap64 (t199 - t197)))))) t224 _ A116.out).mono ?_
         rintro e w' ⟨rfl, ⟨nd, rfl⟩⟩
         refine ⟨_, rfl, ?_⟩
         refine hK.out _ _ ⟨zc0 BK201, zc1 BK201, zc0 BK202, zc1 BK202, hHeld.2.2.2.2⟩ (fun hHeld => ?_)
         clear hK K
         refine zN ?_
         refine zq HT_ 34 ?_
         refine zq HT_ 35 ?_
         refine zq HT_ 36 ?_
         refine zq HT_ 37 ?_
         refine zq HT_ 38 ?_
         refine zq HT_ 39 ?_
         refine zq HT_ 40 ?_
         refine zq HT_ 41 ?_
         refine zq HT_ 42 ?_
         refine zq HT_ 44 ?_
         refine zq HT_ 48 ?_
         refine zq HT_ 49 ?_
         refine zq HT_ 50 ?_
         refine zq HT_ 52 ?_
         refine zq HT_ 58 ?_
         refine zk12 HT_ HW_ hHeld 43 ?_
         refine zk12 HT_ HW_ hHeld 45 ?_
         refine zq HT_ 46 ?_
         refine zq HT_ 47 ?_
         refine zk12 HT_ HW_ hHeld 51 ?_
         refine zk12 HT_ HW_ hHeld 53 ?_
         refine zq HT_ 54 ?_
         refine zq HT_ 55 ?_
         refine zq HT_ 56 ?_
         refine zo HT_ 57 (fun K hK => ?_)
         refine zgo Try.func9 #[.int .i64 (wrap64 ((wrap64 ((wrap64 (2 * (wrap64 ((t203.length : Int) - 1)))) * (wrap64 (((rd_T24 t203 x9_4).f1) - t198)))) - (wrap64 ((wrap64 (2 * x9_4)) * (wrap64 (t200 - t198))))))] ?_
         with_reducible refine (laws_wmAbs.calls (wrap64 ((wrap64 ((wrap64 (2 * (wrap64 ((t203.length : Int) - 1)))) * (wrap64 (((rd_T24 t203 x9_4).f1) - t198)))) - (wrap64 ((wrap64 (2 * x9_4)) * (wrap64 (t200 - t198)))))) t226 _ A120.out).mono ?_
         rintro e w' ⟨rfl, ⟨nd, rfl⟩⟩
         refine ⟨_, rfl, ?_⟩
         refine hK.out _ _ ⟨zc0 BK201, zc1 BK201, zc0 BK202, zc1 BK202, hHeld.2.2.2.2⟩ (fun hHeld => ?_)
         clear hK K
         refine zN ?_
         refine zq HT_ 59 ?_
         refine zq HT_ 60 ?_
         refine done_ (done_of HT_.out (by kernel_rfl)) ?_
         try go_wp2
         go_roundg k4
         case measure => have := HJ5.out; have := HK2.out; have := HJ83.out; have := HK4.out; omega
         case rel => exact ⟨(wrap64 (x9_4 + 1)), zi, H', ⟨by have := HJ5.out; have := HK2.out; have := HJ83.out; have := HK4.out; omega⟩, ⟨zr HO_5⟩, ⟨zh BK201⟩, ⟨zh BK202⟩, ⟨zs2 HB GE201 GE202⟩⟩
/-- THE ONE PURE STATEMENT of laws_FnSkyLegs: yours. -/
def laws_FnSkyLegs.Pure : Prop := ∀ (l0 : List Int), l0.length ≤ maxLen → l0.length * 1 ≤ 140737488351232 → (∀ x ∈ l0, (Lit.int .u8 x).wf = true) → ∃ k, laws_FnSkyLegs.f k l0 = some true
theorem laws_FnSkyLegs.walk (P : laws_FnSkyLegs.Pure) (a0 : Option Addr) (len0 cap0 : Nat) (z0 : List Int) (w : World) (w0 : (a0 = none ∧ len0 = 0 ∧ cap0 = 0 ∧ z0 = []) ∨ ∃ x, a0 = some x ∧ len0 ≤ cap0 ∧ cap0 ≤ maxLen ∧ z0.length = cap0 ∧ (∀ i, i < z0.length → w.cell? (x.add i) = some (.int .u8 (z0.getD i 0))) ∧ ∀ n ∈ z0, (Lit.int .u8 n).wf = true) (y0 : len0 * 1 ≤ 140737488351232) :
 Calls Try.prog 3 #[.slice a0 len0 cap0] w fun e w' => e = .returned (.bool true) ∧ Below w.heap.size w w' := by
 obtain ⟨l0, rfl, hr0, hm0, hw0, hc0⟩ := ReadsInt.ofRowC w0
 obtain ⟨k, h⟩ := P l0 hm0 y0 hw0
 refine (laws_FnSkyLegs.calls k _ _ l0 true w (Kd.C_of_reads (d := (0 : Int)) (h1 := fun _ => rfl) hr0) hc0 h).mono ?_
 rintro e w' ⟨rfl, hd⟩
 exact ⟨rfl, hd⟩
end Go.Proofs.Ytaeichaofhcheaa.QFnSkyLegs
