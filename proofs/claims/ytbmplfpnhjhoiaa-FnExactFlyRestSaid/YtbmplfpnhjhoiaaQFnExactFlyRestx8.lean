/- The walk of what the law FnExactFlyRest reaches: laid by a program of this session (ownprint.py). -/
import Derived.Test.YtbmplfpnhjhoiaaQFnExactFlyRestx0
import Derived.Test.YtbmplfpnhjhoiaaQFnExactFlyRestx5
import Derived.Test.YtbmplfpnhjhoiaaQFnExactFlyRestx7
namespace Go.Proofs.Ytbmplfpnhjhoiaa.QFnExactFlyRest
open Go.RowKit Go.Proofs.YtbmplfpnhjhoiaaW.PrintWords Go.Proofs.YtbmplfpnhjhoiaaW.PrintLast Go.Proofs.YtbmplfpnhjhoiaaW.PrintMore Go.Proofs.Ytbmplfpnhjhoiaa.Z
attribute [local go_sem] max2_int min2_int max_two min_two max_three min_three max_four min_four zdn   -- for this text's walks alone
set_option linter.unusedVariables false
set_option linter.unusedSimpArgs false
mutual
def spec_l24Spans.l0 : Nat → List (S110) → Int → Int → Int → Int → List (S132) → Int → Int → Option ((List (S110)) × Bool)
 | 0, _, _, _, _, _, _, _, _ => none
 | k + 1, x4, x5, x6, x228000, x228001, x228002, x228003, x228004 => if x6 ≤ x5 then ((spec_l23Low.f x228000 x228001 x228002 x228003 x228004 x6).bind fun t231 => ((spec_l23High.f x228000 x228001 x228002 x228003 x228004 x6).bind fun t232 => (if x6 > 0 then (if 0 ≤ (wrap64 (x6 - 1)) then (if (wrap64 (x6 - 1)) < (x4.length : Int) then ((spec_l21Max.f t231 (wrap64 (((rd_T110 x4 (wrap64 (x6 - 1))).f0) + x228000))).bind fun t235 => ((spec_l23Most.f x228000 x228001 x228002 x228003 x228004 (wrap64 (x6 - 1))).bind fun t237 => ((spec_l21Min.f t232 (wrap64 (((rd_T110 x4 (wrap64 (x6 - 1))).f1) + t237))).bind fun t238 => (if t235 > t238 then (some ((([] : List (S110))), false)) else (if x4.length < 8796093022208 then (spec_l24Spans.l0 k (x4 ++ [(⟨t235, t238⟩ : S110)]) x5 (wrap64 (x6 + 1)) x228000 x228001 x228002 x228003 x228004) else (none)))))) else (none)) else (none)) else (if t231 > t232 then (some ((([] : List (S110))), false)) else (if x4.length < 8796093022208 then (spec_l24Spans.l0 k (x4 ++ [(⟨t231, t232⟩ : S110)]) x5 (wrap64 (x6 + 1)) x228000 x228001 x228002 x228003 x228004) else (none)))))) else (spec_l24Spans.l1 k x4 (wrap64 (x5 - 1)) x228000 x228001 x228002 x228003 x228004)
def spec_l24Spans.l1 : Nat → List (S110) → Int → Int → Int → List (S132) → Int → Int → Option ((List (S110)) × Bool)
 | 0, _, _, _, _, _, _, _ => none
 | k + 1, x4, x8, x228000, x228001, x228002, x228003, x228004 => if x8 ≥ 0 then (if 0 ≤ x8 then (if x8 < (x4.length : Int) then (if 0 ≤ (wrap64 (x8 + 1)) then (if (wrap64 (x8 + 1)) < (x4.length : Int) then ((spec_l23Most.f x228000 x228001 x228002 x228003 x228004 x8).bind fun t253 => ((spec_l21Max.f ((rd_T110 x4 x8).f0) (wrap64 (((rd_T110 x4 (wrap64 (x8 + 1))).f0) - t253))).bind fun t254 => ((some (x4.set (x8 : Int).toNat (⟨t254, (rd_T110 x4 x8).f1⟩ : S110) : List (S110))).bind fun y255 => ((spec_l21Min.f ((rd_T110 y255 x8).f1) (wrap64 (((rd_T110 y255 (wrap64 (x8 + 1))).f1) - x228000))).bind fun t258 => ((some (y255.set (x8 : Int).toNat (⟨(rd_T110 y255 x8).f0, t258⟩ : S110) : List (S110))).bind fun y259 => (if ((rd_T110 y259 x8).f0) > ((rd_T110 y259 x8).f1) then (some ((([] : List (S110))), false)) else (spec_l24Spans.l1 k y259 (wrap64 (x8 - 1)) x228000 x228001 x228002 x228003 x228004))))))) else (none)) else (none)) else (none)) else (none)) else (some (x4, true))
end
def spec_l24Spans.f (k : Nat) (a0_0 : Int) (a0_1 : Int) (l0_2 : List (S132)) (a0_3 : Int) (a0_4 : Int) : Option ((List (S110)) × Bool) := spec_l24Spans.l0 k (([] : List (S110))) (l0_2.length : Int) 0 a0_0 a0_1 l0_2 a0_3 a0_4
def spec_l24Spans.T6 : Bool × List (List Nat × List Nat) := (true, [([], []), ([], []), ([0, 1], [0, 1]), ([], []), ([], []), ([3, 4, 2], [3, 4]), ([2, 5], [2, 5]), ([], []), ([7, 6, 5, 0, 1, 2, 3, 4, 5, 6, 7], [6, 7])])
def spec_l24Spans.B6 : List Nat := [0, 0, 3, 0, 0, 31, 63, 0, 255]
theorem spec_l24Spans.tab6 : rtab .any (opsOf Try.f121 6) = spec_l24Spans.T6 := by kernel_rfl
theorem spec_l24Spans.bits6 : waitsOk spec_l24Spans.T6.2 spec_l24Spans.B6 = true := by kernel_rfl
def spec_l24Spans.T8 : Bool × List (List Nat × List Nat) := (true, [([], []), ([0], [0]), ([], []), ([], []), ([3], [3]), ([2, 4], [2, 4]), ([5], [5]), ([6], [6]), ([], []), ([8], [8]), ([9], [9]), ([7, 10], [7, 10]), ([1, 11], [1, 11]), ([0, 1, 2, 3, 4, 5, 6, 7, 8, 9, 10, 11, 12], []), ([13, 12, 12, 0, 1, 2, 3, 4, 5, 6, 7, 8, 9, 10, 11, 12], [12, 13])])
def spec_l24Spans.B8 : List Nat := [0, 1, 0, 0, 8, 28, 60, 124, 0, 256, 768, 2044, 4095, 8191, 16383]
theorem spec_l24Spans.tab8 : rtab .any (opsOf Try.f121 8) = spec_l24Spans.T8 := by kernel_rfl
theorem spec_l24Spans.bits8 : waitsOk spec_l24Spans.T8.2 spec_l24Spans.B8 = true := by kernel_rfl
def spec_l24Spans.T9 : Bool × List (List Nat × List Nat) := (true, [([], []), ([0], [0]), ([], []), ([], []), ([3], [3]), ([2, 4], [2, 4]), ([5], [5]), ([6], [6]), ([], []), ([], []), ([9], [9]), ([8, 10], [8, 10]), ([7, 11], [7, 11]), ([1, 12, 11], [1, 12]), ([0, 1, 2, 3, 4, 5, 6, 7, 8, 9, 10, 11, 12, 13], []), ([14, 13, 13, 0, 1, 2, 3, 4, 5, 6, 7, 8, 9, 10, 11, 12, 13], [13, 14])])
def spec_l24Spans.B9 : List Nat := [0, 1, 0, 0, 8, 28, 60, 124, 0, 0, 512, 1792, 4092, 8191, 16383, 32767]
theorem spec_l24Spans.tab9 : rtab .any (opsOf Try.f121 9) = spec_l24Spans.T9 := by kernel_rfl
theorem spec_l24Spans.bits9 : waitsOk spec_l24Spans.T9.2 spec_l24Spans.B9 = true := by kernel_rfl
def spec_l24Spans.T16 : Bool × List (List Nat × List Nat) := (true, [([], []), ([], []), ([], []), ([], []), ([2, 3], [2, 3]), ([4], [4]), ([5], [5]), ([], []), ([], []), ([8], [8]), ([7, 9], [7, 9]), ([10], [10]), ([11], [11]), ([], []), ([], []), ([13, 14], [13, 14]), ([12, 15], [12, 15]), ([6, 16, 15], [6, 16]), ([0, 1, 0, 1, 2, 3, 4, 5, 6, 7, 8, 9, 10, 11, 12, 13, 14, 15, 16, 17], [0, 1]), ([18, 0, 1, 2, 3, 4, 5, 6, 7, 8, 9, 10, 11, 12, 13, 14, 15, 16, 17], [18]), ([19, 17, 17, 0, 1, 2, 3, 4, 5, 6, 7, 8, 9, 10, 11, 12, 13, 14, 15, 16, 17], [17, 19])])
def spec_l24Spans.B16 : List Nat := [0, 0, 0, 0, 12, 28, 60, 0, 0, 256, 896, 1920, 3968, 0, 0, 24576, 65408, 131068, 262143, 524287, 1048575]
theorem spec_l24Spans.tab16 : rtab .any (opsOf Try.f121 16) = spec_l24Spans.T16 := by kernel_rfl
theorem spec_l24Spans.bits16 : waitsOk spec_l24Spans.T16.2 spec_l24Spans.B16 = true := by kernel_rfl
def spec_l24Spans.T17 : Bool × List (List Nat × List Nat) := (true, [([], []), ([], []), ([], []), ([], []), ([2, 3], [2, 3]), ([4], [4]), ([5], [5]), ([], []), ([], []), ([8], [8]), ([7, 9], [7, 9]), ([10], [10]), ([11], [11]), ([], []), ([13], [13]), ([14], [14]), ([12, 15], [12, 15]), ([6, 16], [6, 16]), ([0, 1, 0, 1, 2, 3, 4, 5, 6, 7, 8, 9, 10, 11, 12, 13, 14, 15, 16, 17], [0, 1]), ([18, 0, 1, 2, 3, 4, 5, 6, 7, 8, 9, 10, 11, 12, 13, 14, 15, 16, 17], [18]), ([19, 17, 17, 0, 1, 2, 3, 4, 5, 6, 7, 8, 9, 10, 11, 12, 13, 14, 15, 16, 17], [17, 19])])
def spec_l24Spans.B17 : List Nat := [0, 0, 0, 0, 12, 28, 60, 0, 0, 256, 896, 1920, 3968, 0, 8192, 24576, 65408, 131068, 262143, 524287, 1048575]
theorem spec_l24Spans.tab17 : rtab .any (opsOf Try.f121 17) = spec_l24Spans.T17 := by kernel_rfl
theorem spec_l24Spans.bits17 : waitsOk spec_l24Spans.T17.2 spec_l24Spans.B17 = true := by kernel_rfl
def spec_l24Spans.T18 : Bool × List (List Nat × List Nat) := (true, [([], []), ([], []), ([0, 1], [0, 1]), ([2], [2]), ([3], [3]), ([], []), ([], []), ([5, 6], [5, 6]), ([7], [7]), ([8], [8]), ([4, 9], [4, 9])])
def spec_l24Spans.B18 : List Nat := [0, 0, 3, 7, 15, 0, 0, 96, 224, 480, 1023]
theorem spec_l24Spans.tab18 : rtab .any (opsOf Try.f121 18) = spec_l24Spans.T18 := by kernel_rfl
theorem spec_l24Spans.bits18 : waitsOk spec_l24Spans.T18.2 spec_l24Spans.B18 = true := by kernel_rfl
set_option maxHeartbeats 8000000 in
set_option maxRecDepth 100000 in
theorem spec_l24Spans.calls (k : Nat) (a0_0 : Int) (a0_1 : Int) (A0_2 : Option Addr) (c0_2 : Nat) (l0_2 : List (S132)) (a0_3 : Int) (a0_4 : Int) (r1 : List (S110)) (r2 : Bool) (w : World) (hr0_2 : Kd.C k132 w A0_2 l0_2.length l0_2) (hc0_2 : l0_2.length ≤ c0_2) (h : spec_l24Spans.f k a0_0 a0_1 l0_2 a0_3 a0_4 = some (r1, r2)) :
 Calls Try.prog 121 #[.agg #[.int .i64 a0_0, .int .i64 a0_1, .slice A0_2 l0_2.length c0_2, .int .i64 a0_3, .int .i64 a0_4]] w fun e w' => ∃ v0_ : Value, e = .returned (.tuple #[v0_, .bool r2]) ∧ Kd.R k110 110 w' w.heap.size (fun _ => True) v0_ r1 ∧ Below w.heap.size w w' := by
 have hu68 := Try.underlying68
 have hu110 := Try.underlying110
 have HR0_2 := zA hr0_2
 have HC0_2 := zA hc0_2
 clear hr0_2 hc0_2
 have HB := zA (Below.refl w.heap.size w)
 have H : (spec_l24Spans.l0 k (([] : List (S110))) (l0_2.length : Int) 0 a0_0 a0_1 l0_2 a0_3 a0_4) = some (r1, r2) := h
 clear h
 obtain ⟨y228, hy228⟩ : ∃ y_ : List (S110), y_ = (([] : List (S110))) := ⟨_, rfl⟩
 replace H : (spec_l24Spans.l0 k y228 (l0_2.length : Int) 0 a0_0 a0_1 l0_2 a0_3 a0_4) = some (r1, r2) := by first | (rw [hy228]; with_reducible exact H) | (have H2_ := (Option.bind_some _ _).symm.trans H; rw [hy228]; with_reducible exact H2_) | (have H2_ := (Option.bind_some _ _).symm.trans H; with_reducible exact H2_) | with_reducible exact H | (rw [hy228]; exact H) | exact H
 have Ny228 := zA hy228
 clear hy228
 have H' := zA H
 clear H
 go_enter Try.func121, Try.ntmps121
 go_wp2_with (first | ((with_reducible refine gate_dst (N := 1) rfl ?_); refine zbx 1 #[.int .i64 a0_0, .int .i64 a0_1, .slice A0_2 l0_2.length c0_2, .int .i64 a0_3, .int .i64 a0_4] 68 ?_; intro gb227 hg w2 hbox hb; have BK227 := zA hbox; have GW227 := zgs hg (zs0 HB); have GE227 := zgs hg (zs0 HB); replace HB := zE (zs0 HB) hb; clear hb hbox hg) | ((with_reducible refine gate_dst (N := 9) rfl ?_); refine Kd.R_lit k110 _ 110 ?hg (N := 9) ?hd (xs := ([] : List (S110))) (inner := []) (ok := fun _ => True) (okp := fun _ => True) ?hr ?hp (fun _ hk => hk) trivial (Below.refl _ _) (Nat.le_refl _) (by simp) ?_; (case hd => rfl); (case hg => rfl); (case hr => first | (go_simp; done) | (go_simp; rfl)); (case hp => exact (Reps.none _ _)); intro v229 w3 ho4 hb hg_ hnew_; clear hg_ hnew_; (first | rw [← Ny228.out] at ho4 | (simp only [Int.reduceToNat] at ho4; rw [← Ny228.out] at ho4)); have HO230 := zA (Kd.R_lower ho4 (below_size (zs1 HB GE227))); replace BK227 := zb BK227 hb; replace HB := zE (zs1 HB GE227) hb; clear hb ho4; obtain ⟨hcz5_0, hcz5_1, hcz5_2, hcz5_3, hcz5_4⟩ := zd5 BK227; obtain ⟨hfz5_0, hfz5_1, hfz5_2, hfz5_3, hfz5_4⟩ := zn5 BK227))
 go_loopg [4, 6] k (fun kq v4 v6 w' => ∃ (x4_1 : List (S110)) (x6_1 : Int), v6 = .int .i64 x6_1 ∧ Aside0 (spec_l24Spans.l0 kq x4_1 (l0_2.length : Int) x6_1 a0_0 a0_1 l0_2 a0_3 a0_4 = some (r1, r2)) ∧ Aside0 (kq ≤ k) ∧ Aside0 (Kd.R k110 110 w' w.heap.size (fun _ => True) v4 x4_1) ∧ Aside0 (w'.heap[gb227]? = some (.cells #[.int .i64 a0_0, .int .i64 a0_1, (.slice A0_2 l0_2.length c0_2), .int .i64 a0_3, .int .i64 a0_4] 68 (0, 0))) ∧ Aside0 (Below w.heap.size w w'))
 case atStart => exact ⟨(y228), (0), zi, H', ⟨Nat.le_refl _⟩, ⟨zr HO230⟩, ⟨zh BK227⟩, ⟨zs1 HB GE227⟩⟩
 case round =>
  clear H'
  try clear c1
  try clear p2
  try clear hcz5_0 hcz5_1 hcz5_2 hcz5_3 hcz5_4 hfz5_0 hfz5_1 hfz5_2 hfz5_3 hfz5_4
  obtain ⟨x4_1, x6_1, rfl, HA, HK1, HO_4, BK227, HB⟩ := hrel
  cases gk with
  | zero => exact absurd HA.out (by simp [spec_l24Spans.l0])
  | succ k1 =>
   have H := HA.out
   clear HA
   simp only [spec_l24Spans.l0] at H
   by_cases c6 : x6_1 ≤ (l0_2.length : Int)
   rotate_left
   ·rw [if_neg c6] at H
    have c6b0 : decide (x6_1 ≤ (l0_2.length : Int)) = false := decide_eq_false c6
    clear c6
    have H' := zA H
    clear H
    go_wp2
    go_loopg [8] k1 (fun kq v8 w' => ∃ (x4_2 : List (S110)) (x8_2 : Int), v8 = .int .i64 x8_2 ∧ Aside0 (spec_l24Spans.l1 kq x4_2 x8_2 a0_0 a0_1 l0_2 a0_3 a0_4 = some (r1, r2)) ∧ Aside0 (kq ≤ k1) ∧ Aside0 (Kd.R k110 110 w' w.heap.size (fun _ => True) u4 x4_2) ∧ Aside0 (w'.heap[gb227]? = some (.cells #[.int .i64 a0_0, .int .i64 a0_1, (.slice A0_2 l0_2.length c0_2), .int .i64 a0_3, .int .i64 a0_4] 68 (0, 0))) ∧ Aside0 (Below w.heap.size w w'))
    case atStart => exact ⟨(x4_1), (wrap64 ((l0_2.length : Int) - 1)), zi, H', ⟨Nat.le_refl _⟩, ⟨zr HO_4⟩, ⟨zh BK227⟩, ⟨zs1 HB GE227⟩⟩
    case round =>
     clear H'
     try clear c1
     try clear p2
     try clear c5
     try clear c6
     try clear c6b0
     try clear p6
     try clear c7
     try clear c15
     try clear c55
     try clear c55b0
     try clear c63
     try clear p64
     try clear c67
     try clear c75
     try clear hcz64_0 hcz64_1
     try clear hcz76_0 hcz76_1
     try clear hfz64_0 hfz64_1
     try clear hfz76_0 hfz76_1
     obtain ⟨x4_2, x8_2, rfl, HA, HK2, HO_4, BK227, HB⟩ := hrel
     cases gk with
     | zero => exact absurd HA.out (by simp [spec_l24Spans.l1])
     | succ k2 =>
      have H := HA.out
      clear HA
      simp only [spec_l24Spans.l1] at H
      by_cases c78 : x8_2 ≥ 0
      rotate_left
      ·rw [if_neg c78] at H
       have c78b0 : decide (0 ≤ x8_2) = false := decide_eq_false c78
       clear c78
       simp only [Option.some.injEq, Prod.mk.injEq] at H
       obtain ⟨rfl, rfl⟩ := H
       go_wp2
       go_ret2
       exact ⟨_, ze, zr HO_4, zs1 HB GE227⟩
      rw [if_pos c78] at H
      have c78b0 : decide (0 ≤ x8_2) = true := decide_eq_true c78
      clear c78
      by_cases c79 : 0 ≤ x8_2
      rotate_left
      ·rw [if_neg c79] at H
       exact absurd H (by simp)
      rw [if_pos c79] at H
      have c79b0 : decide (0 ≤ x8_2) = true := decide_eq_true c79
      clear c79
      by_cases c80 : x8_2 < (x4_2.length : Int)
      rotate_left
      ·rw [if_neg c80] at H
       exact absurd H (by simp)
      rw [if_pos c80] at H
      have c80b0 : decide (x8_2 < (x4_2.length : Int)) = true := decide_eq_true c80
      clear c80
      obtain ⟨ji81, hji81⟩ : ∃ j_ : Int, (wrap64 (x8_2 + 1)) = j_ := ⟨_, rfl⟩
      first | rw [hji81] at H | simp only [hji81] at H
      have hji81w : (IntKind.i64.wrap (x8_2 + 1)) = ji81 := (i64_w _).trans hji81
      by_cases c82 : 0 ≤ (ji81)
      rotate_left
      ·rw [if_neg c82] at H
       exact absurd H (by simp)
      rw [if_pos c82] at H
      have c82b0 : decide (0 ≤ (ji81)) = true := decide_eq_true c82
      clear c82
      by_cases c83 : (ji81) < (x4_2.length : Int)
      rotate_left
      ·rw [if_neg c83] at H
       exact absurd H (by simp)
      rw [if_pos c83] at H
      have c83b0 : decide ((ji81) < (x4_2.length : Int)) = true := decide_eq_true c83
      clear c83
      replace H := zbd H; obtain ⟨t253, A84, H⟩ := H
      replace H := Option.bind_eq_some_iff.mp H
      obtain ⟨t254, A850, H⟩ := H
      replace H : ((some (x4_2.set (x8_2 : Int).toNat (⟨t254, (rd_T110 x4_2 x8_2).f1⟩ : S110) : List (S110))).bind fun y255 => ((spec_l21Min.f ((rd_T110 y255 x8_2).f1) (wrap64 (((rd_T110 y255 (ji81)).f1) - a0_0))).bind fun t258 => ((some (y255.set (x8_2 : Int).toNat (⟨(rd_T110 y255 x8_2).f0, t258⟩ : S110) : List (S110))).bind fun y259 => (if ((rd_T110 y259 x8_2).f0) > ((rd_T110 y259 x8_2).f1) then (some ((([] : List (S110))), false)) else (spec_l24Spans.l1 k2 y259 (wrap64 (x8_2 - 1)) a0_0 a0_1 l0_2 a0_3 a0_4))))) = some (r1, r2) := H
      have A85 := zA A850
      clear A850
      obtain ⟨y255, hy255⟩ : ∃ y_ : List (S110), y_ = (x4_2.set (x8_2 : Int).toNat (⟨t254, (rd_T110 x4_2 x8_2).f1⟩ : S110)) := ⟨_, rfl⟩
      replace H : ((spec_l21Min.f ((rd_T110 y255 x8_2).f1) (wrap64 (((rd_T110 y255 (ji81)).f1) - a0_0))).bind fun t258 => ((some (y255.set (x8_2 : Int).toNat (⟨(rd_T110 y255 x8_2).f0, t258⟩ : S110) : List (S110))).bind fun y259 => (if ((rd_T110 y259 x8_2).f0) > ((rd_T110 y259 x8_2).f1) then (some ((([] : List (S110))), false)) else (spec_l24Spans.l1 k2 y259 (wrap64 (x8_2 - 1)) a0_0 a0_1 l0_2 a0_3 a0_4)))) = some (r1, r2) := by first | (rw [hy255]; with_reducible exact H) | (have H2_ := (Option.bind_some _ _).symm.trans H; rw [hy255]; with_reducible exact H2_) | (have H2_ := (Option.bind_some _ _).symm.trans H; with_reducible exact H2_) | with_reducible exact H | (rw [hy255]; exact H) | exact H
      have Ny255 := zA hy255
      clear hy255
      replace H := zbd H; obtain ⟨t258, A87, H⟩ := H
      obtain ⟨y259, hy259⟩ : ∃ y_ : List (S110), y_ = (y255.set (x8_2 : Int).toNat (⟨(rd_T110 y255 x8_2).f0, t258⟩ : S110)) := ⟨_, rfl⟩
      replace H : (if ((rd_T110 y259 x8_2).f0) > ((rd_T110 y259 x8_2).f1) then (some ((([] : List (S110))), false)) else (spec_l24Spans.l1 k2 y259 (wrap64 (x8_2 - 1)) a0_0 a0_1 l0_2 a0_3 a0_4)) = some (r1, r2) := by first | (rw [hy259]; with_reducible exact H) | (have H2_ := (Option.bind_some _ _).symm.trans H; rw [hy259]; with_reducible exact H2_) | (have H2_ := (Option.bind_some _ _).symm.trans H; with_reducible exact H2_) | with_reducible exact H | (rw [hy259]; exact H) | exact H
      have Ny259 := zA hy259
      clear hy259
      by_cases c89 : ((rd_T110 y259 x8_2).f0) > ((rd_T110 y259 x8_2).f1)
      rotate_left
      ·rw [if_neg c89] at H
       have c89b0 : decide (((rd_T110 y259 x8_2).f1) < ((rd_T110 y259 x8_2).f0)) = false := decide_eq_false c89
       clear c89
       have H' := zA H
       clear H
       try go_wp2
       replace HO_4 := zA (Kd.R_drew HO_4.out)
       replace BK227 := zA (blk_drew BK227.out)
       replace HB := zA (below_drew1 HB.out)
       obtain ⟨Ao102, co102, eo102⟩ := Kd.R_slice HO_4.out
       (first | subst eo102 | (injection eo102 with f1_ f2_ f3_; have f4_ := f1_.symm; have f5_ := f3_.symm; clear f1_ f2_ f3_; subst f4_; subst f5_))
       have p251 : 0 ≤ (x8_2 : Int) := za
       have q251 : x8_2 < (x4_2.length : Int) := za
       obtain ⟨ad251, e251, hx251_0, hx251_1⟩ := at_T110 (Kd.R_reads' HO_4.out).2.2 x8_2 p251 q251
       cases e251
       replace p251 := eq_true p251
       replace q251 := eq_true q251
       have p252 : 0 ≤ ((ji81) : Int) := za
       have q252 : (ji81) < (x4_2.length : Int) := za
       obtain ⟨ad252, e252, hx252_0, hx252_1⟩ := at_T110 (Kd.R_reads' HO_4.out).2.2 (ji81) p252 q252
       obtain rfl : ad251 = ad252 := (by injection e252)
       replace p252 := eq_true p252
       replace q252 := eq_true q252
       refine start_ (n := 21) (S := fun w' => w'.cell? ⟨gb227, 0, none⟩ = some (.int .i64 a0_0) ∧ w'.cell? ⟨gb227, 1, none⟩ = some (.int .i64 a0_1) ∧ w'.cell? ⟨gb227, 2, none⟩ = some (.slice A0_2 l0_2.length c0_2) ∧ w'.cell? ⟨gb227, 3, none⟩ = some (.int .i64 a0_3) ∧ w'.cell? ⟨gb227, 4, none⟩ = some (.int .i64 a0_4) ∧ w'.cell? (ad251.add ((x8_2).toNat * 2)) = some (.int .i64 ((rd_T110 x4_2 x8_2).f0)) ∧ w'.cell? ⟨(ad251.add ((x8_2).toNat * 2)).block, (ad251.add ((x8_2).toNat * 2)).off + 1, none⟩ = some (.int .i64 ((rd_T110 x4_2 x8_2).f1)) ∧ w'.cell? (ad251.add (((ji81)).toNat * 2)) = some (.int .i64 ((rd_T110 x4_2 (ji81)).f0)) ∧ w'.cell? ⟨(ad251.add (((ji81)).toNat * 2)).block, (ad251.add (((ji81)).toNat * 2)).off + 1, none⟩ = some (.int .i64 ((rd_T110 x4_2 (ji81)).f1))) (ds := [20]) #[F,F,F,F,F,F,F,F,F,F,F,F,F,F,F,F,F,F,F,F,F] (by kernel_rfl) rfl rfl ⟨zc0 BK227, zc1 BK227, zc2 BK227, zc3 BK227, zc4 BK227, hx251_0, hx251_1, hx252_0, hx252_1⟩ (fun hHeld => ?_); refine with_tabW spec_l24Spans.tab16 spec_l24Spans.bits16 (fun HT_ HW_ => ?_)
       generalize wr.drew = w101 at HO_4 BK227 HB hx251_0 hx251_1 hx252_0 hx252_1 hHeld ⊢
       refine zq HT_ 0 ?_
       refine zq HT_ 1 ?_
       refine zq HT_ 2 ?_
       refine zq HT_ 3 ?_
       refine zq HT_ 4 ?_
       refine zq HT_ 5 ?_
       refine zq HT_ 7 ?_
       refine zq HT_ 8 ?_
       refine zq HT_ 9 ?_
       refine zq HT_ 10 ?_
       refine zq HT_ 11 ?_
       refine zq HT_ 14 ?_
       refine zk9 HT_ HW_ hHeld 6 ?_
       refine zk9 HT_ HW_ hHeld 12 ?_
       refine zk9 HT_ HW_ hHeld 13 ?_
       refine zo HT_ 15 (fun K hK => ?_)
       refine zgo Try.func154 #[.agg #[.int .i64 a0_0, .int .i64 a0_1, .slice A0_2 l0_2.length c0_2, .int .i64 a0_3, .int .i64 a0_4], .int .i64 x8_2] ?_
       with_reducible refine (spec_l23Most.calls a0_0 a0_1 _ _ l0_2 a0_3 a0_4 x8_2 t253 _ ?side1 ?side2 A84.out).mono ?_
       (case side1 => exact zC HR0_2 HB)
       (case side2 => exact HC0_2.out)
       rintro e w103 ⟨rfl, hb⟩
       have HS5_ := (hb.cell (World.block_lt_of_cell? _ _ (hHeld.2.2.2.2.2.1))).trans (hHeld.2.2.2.2.2.1)
       have HS6_ := (hb.cell (World.block_lt_of_cell? _ _ (hHeld.2.2.2.2.2.2.1))).trans (hHeld.2.2.2.2.2.2.1)
       have HS7_ := (hb.cell (World.block_lt_of_cell? _ _ (hHeld.2.2.2.2.2.2.2.1))).trans (hHeld.2.2.2.2.2.2.2.1)
       have HS8_ := (hb.cell (World.block_lt_of_cell? _ _ (hHeld.2.2.2.2.2.2.2.2))).trans (hHeld.2.2.2.2.2.2.2.2)
       refine ⟨_, rfl, ?_⟩
       replace HO_4 := zA (Kd.R_below (zr HO_4) hb)
       replace BK227 := zb BK227 hb
       replace HB := zE (zs1 HB GE227) hb
       (try clear hb)
       (try clear hb2)
       (try clear hk)
       (try clear hi)
       refine hK.out _ _ ⟨zc0 BK227, zc1 BK227, zc2 BK227, zc3 BK227, zc4 BK227, HS5_, HS6_, HS7_, HS8_⟩ (fun hHeld => ?_)
       clear hK K
       refine zN ?_
       refine zq HT_ 16 ?_
       refine zo HT_ 17 (fun K hK => ?_)
       refine goes_ Try.func130 (by kernel_rfl) rfl #[.int .i64 ((rd_T110 x4_2 x8_2).f0), .int .i64 (wrap64 (((rd_T110 x4_2 (ji81)).f0) - t253))] (by rfl) rfl rfl (by (try simp only [List.map_toArray, List.map_cons, List.map_nil]); first | done | (simp only [hji81]; rfl) | rfl | (simp only [List.length_drop, List.length_take]; rfl)) ?_
       with_reducible refine (spec_l21Max.calls ((rd_T110 x4_2 x8_2).f0) (wrap64 (((rd_T110 x4_2 (ji81)).f0) - t253)) t254 _ A85.out).mono ?_
       rintro e w' ⟨rfl, ⟨nd, rfl⟩⟩
       refine ⟨_, rfl, ?_⟩
       have p86 : 0 ≤ (x8_2 : Int) := za
       have q86 : (x8_2 : Int) < ((x4_2.length : Int) : Int) := za
       obtain ⟨go86, co86, eo86, gb86, gl86, cl86, HG86⟩ := Kd.R_form HO_4.out (by omega)
       (first | cases eo86 | (injection eo86 with ea_ en_ ec_; (first | subst ea_ | (injection ea_ with ea_; subst ea_)); subst ec_; clear en_))
       have GB86 := zA gb86
       have GG86 := zA HG86
       clear gb86 gl86 HG86
       (first | simp only [add_plain] at hx251_0 | skip)
       (first | simp only [add_plain] at hx251_1 | skip)
       (first | simp only [add_plain] at hx252_0 | skip)
       (first | simp only [add_plain] at hx252_1 | skip)
       obtain ⟨ce86, hcl86, hM86, hcc86, hfr86⟩ := Kd.R_elem HO_4.out z110 (x8_2 : Int) p86 q86
       obtain rfl := k110_openM hM86
       have hx86_0 : World.cell? _ ⟨go86, (x8_2 : Int).toNat * 2, none⟩ = some (.int .i64 ((rd_T110 x4_2 x8_2).f0)) := hcc86 0 _ rfl
       have hx86_1 : World.cell? _ ⟨go86, (x8_2 : Int).toNat * 2 + 1, none⟩ = some (.int .i64 ((rd_T110 x4_2 x8_2).f1)) := hcc86 1 _ rfl
       have hf86_0 : World.frozen? _ ⟨go86, (x8_2 : Int).toNat * 2, none⟩ = false := hfr86 0
       have hf86_1 : World.frozen? _ ⟨go86, (x8_2 : Int).toNat * 2 + 1, none⟩ = false := hfr86 1
       clear hcl86 hcc86 hfr86 hM86
       replace p86 := eq_true p86
       replace q86 := eq_true q86
       obtain ⟨ce104, hcl104, hM104, hcc104, hfr104⟩ := Kd.R_elem HO_4.out z110 (x8_2 : Int) (za) (by have h_ : (x8_2 : Int) < ((x4_2.length : Int) : Int) := za; first | exact h_ | (have e_ := (Kd.R_reads' HO_4.out).1; omega) | simpa using h_)
       obtain rfl := k110_openM hM104
       have HP104 := (Kd.R_seg HO_4.out (x8_2 : Int) (za) (by have h_ : (x8_2 : Int) < ((x4_2.length : Int) : Int) := za; first | exact h_ | (have e_ := (Kd.R_reads' HO_4.out).1; omega) | simpa using h_) (seg := [.int .i64 t254]) (j := 0) hcl104 hcc104 (show 1 ≤ 2 from by decide) (x' := (⟨t254, (rd_T110 x4_2 x8_2).f1⟩ : S110)) (k110_mkM _ _ _ (⟨t254, (rd_T110 x4_2 x8_2).f1⟩ : S110) ) (fun _ hk => hk)).1
       rw [← Ny255.out] at HP104
       have HQ104 := zA HP104
       clear hcl104 hcc104 hfr104 hM104 HP104
       refine hK.out _ _ ⟨zc0 BK227, zc1 BK227, zc2 BK227, zc3 BK227, zc4 BK227, hHeld.2.2.2.2.2⟩ (fun hHeld => ?_)
       clear hK K
       refine zN ?_
       refine zq HT_ 18 ?_
       refine zq HT_ 19 ?_
       refine zO HT_ 20 (fun K hK => ?_)
       refine skip_ (w1 := ?_) (by rfl) rfl ?_ ?_
       rotate_left
       ·go_simp
        rfl
       refine hK.out _ _ ?_
       clear hK K
       refine done_ (done_of HT_.out (by kernel_rfl)) ?_
       try go_wp2
       obtain ⟨w105, e_⟩ : ∃ x, x = (w103.setCell ⟨go86, (x8_2 : Int).toNat * 2, none⟩ (.int .i64 t254)) := ⟨_, rfl⟩
       have n0_ : Aside0 (Kd.R k110 110 w105 w.heap.size (fun _ => True) (.slice (some ⟨go86, 0, none⟩) x4_2.length co102) y255) := by rw [e_]; exact ⟨zr HQ104⟩
       have n1_ : Aside0 (w105.heap[gb227]? = some (.cells #[.int .i64 a0_0, .int .i64 a0_1, .slice A0_2 l0_2.length c0_2, .int .i64 a0_3, .int .i64 a0_4] 68 (0, 0))) := by rw [e_]; exact ⟨by (with_reducible repeat (first | refine blk_drewN ?_ _ | refine blk_drew ?_ | refine blk_alloc ?_ _)); refine blk_far ?_ (by have h_ := Kd.R_ne HO_4.out BK227.out (by decide); intro e_; exact h_ (by rw [e_]; rfl)) _; (with_reducible repeat (first | refine blk_drewN ?_ _ | refine blk_drew ?_ | refine blk_alloc ?_ _)); exact BK227.out⟩
       have n2_ : Aside0 (Below w.heap.size w w105) := by rw [e_]; exact ⟨by repeat (first | (with_reducible first | exact HB.out | apply below_alloc | apply pw_below_drewN | apply below_drew1 | refine below_set ?_ GB86.out | refine below_set ?_ GE227.out) | exact HB.out)⟩
       (try clear HO_4)
       (try clear BK227)
       (try clear HB)
       rw [← e_]; clear e_
       have HO_4 := n0_
       have BK227 := n1_
       have HB := n2_
       clear n0_ n1_ n2_
       (try (rw [drewN_self w105]; generalize hq_ : World.drewN w105 _ = w105; replace HO_4 : Aside0 (Kd.R k110 110 w105 w.heap.size (fun _ => True) (.slice (some ⟨go86, 0, none⟩) x4_2.length co102) y255) := ⟨by rw [← hq_]; exact (zr HO_4)⟩; replace BK227 : Aside0 (w105.heap[gb227]? = some (.cells #[.int .i64 a0_0, .int .i64 a0_1, .slice A0_2 l0_2.length c0_2, .int .i64 a0_3, .int .i64 a0_4] 68 (0, 0))) := ⟨by rw [← hq_]; exact (zh BK227)⟩; replace HB : Aside0 (Below w.heap.size w w105) := ⟨by rw [← hq_]; exact (zs1 HB GE227)⟩; clear hq_))
       replace HO_4 := zA (Kd.R_drew HO_4.out)
       replace BK227 := zA (blk_drew BK227.out)
       replace HB := zA (below_drew1 HB.out)
       have p256 : 0 ≤ (x8_2 : Int) := za
       have q256 : x8_2 < (y255.length : Int) := (by have h_ : (x8_2 : Int) < ((x4_2.length : Int) : Int) := za; first | (have e_ := (Kd.R_reads' HO_4.out).1; omega) | simpa only [Ny255.out, List.length_set] using h_)
       have ql256 : ((x8_2 : Int) < ((x4_2.length : Int) : Int)) = True := eq_true (za)
       obtain ⟨ad256, e256, hx256_0, hx256_1⟩ := at_T110 (Kd.R_reads' HO_4.out).2.2 x8_2 p256 q256
       obtain rfl : (⟨go86, 0, none⟩ : Addr) = ad256 := (by injection e256)
       (first | simp only [add_plain] at hx256_0 | simp only [add_at] at hx256_0 | simp only [Addr.add, Nat.zero_add] at hx256_0 | skip)
       (first | simp only [add_plain] at hx256_1 | simp only [add_at] at hx256_1 | simp only [Addr.add, Nat.zero_add] at hx256_1 | skip)
       replace p256 := eq_true p256
       replace q256 := eq_true q256
       have p257 : 0 ≤ ((ji81) : Int) := za
       have q257 : (ji81) < (y255.length : Int) := (by have h_ : ((ji81) : Int) < ((x4_2.length : Int) : Int) := za; first | (have e_ := (Kd.R_reads' HO_4.out).1; omega) | simpa only [Ny255.out, List.length_set] using h_)
       have ql257 : (((ji81) : Int) < ((x4_2.length : Int) : Int)) = True := eq_true (za)
       obtain ⟨ad257, e257, hx257_0, hx257_1⟩ := at_T110 (Kd.R_reads' HO_4.out).2.2 (ji81) p257 q257
       obtain rfl : (⟨go86, 0, none⟩ : Addr) = ad257 := (by injection e257)
       (first | simp only [add_plain] at hx257_0 | simp only [add_at] at hx257_0 | simp only [Addr.add, Nat.zero_add] at hx257_0 | skip)
       (first | simp only [add_plain] at hx257_1 | simp only [add_at] at hx257_1 | simp only [Addr.add, Nat.zero_add] at hx257_1 | skip)
       replace p257 := eq_true p257
       replace q257 := eq_true q257
       refine start_ (n := 21) (S := fun w' => w'.cell? ⟨gb227, 0, none⟩ = some (.int .i64 a0_0) ∧ w'.cell? ⟨gb227, 1, none⟩ = some (.int .i64 a0_1) ∧ w'.cell? ⟨gb227, 2, none⟩ = some (.slice A0_2 l0_2.length c0_2) ∧ w'.cell? ⟨gb227, 3, none⟩ = some (.int .i64 a0_3) ∧ w'.cell? ⟨gb227, 4, none⟩ = some (.int .i64 a0_4) ∧ w'.cell? ⟨go86, (x8_2).toNat * 2, none⟩ = some (.int .i64 ((rd_T110 y255 x8_2).f0)) ∧ w'.cell? ⟨go86, (x8_2).toNat * 2 + 1, none⟩ = some (.int .i64 ((rd_T110 y255 x8_2).f1)) ∧ w'.cell? ⟨go86, ((ji81)).toNat * 2, none⟩ = some (.int .i64 ((rd_T110 y255 (ji81)).f0)) ∧ w'.cell? ⟨go86, ((ji81)).toNat * 2 + 1, none⟩ = some (.int .i64 ((rd_T110 y255 (ji81)).f1))) (ds := [20]) #[F,F,F,F,F,F,F,F,F,F,F,F,F,F,F,F,F,F,F,F,F] (by kernel_rfl) rfl rfl ⟨zc0 BK227, zc1 BK227, zc2 BK227, zc3 BK227, zc4 BK227, hx256_0, hx256_1, hx257_0, hx257_1⟩ (fun hHeld => ?_); refine with_tabW spec_l24Spans.tab17 spec_l24Spans.bits17 (fun HT_ HW_ => ?_)
       generalize w105.drew = w106 at HO_4 BK227 HB HQ104 hx256_0 hx256_1 hx257_0 hx257_1 hHeld ⊢
       refine zq HT_ 0 ?_
       refine zq HT_ 1 ?_
       refine zq HT_ 2 ?_
       refine zq HT_ 3 ?_
       refine zq HT_ 4 ?_
       refine zq HT_ 5 ?_
       refine zq HT_ 7 ?_
       refine zq HT_ 8 ?_
       refine zq HT_ 9 ?_
       refine zq HT_ 10 ?_
       refine zq HT_ 11 ?_
       refine zq HT_ 13 ?_
       refine zq HT_ 14 ?_
       refine zk9 HT_ HW_ hHeld 6 ?_
       refine zk9 HT_ HW_ hHeld 12 ?_
       refine zk9 HT_ HW_ hHeld 15 ?_
       refine zq HT_ 16 ?_
       refine zo HT_ 17 (fun K hK => ?_)
       refine goes_ Try.func98 (by kernel_rfl) rfl #[.int .i64 ((rd_T110 y255 x8_2).f1), .int .i64 (wrap64 (((rd_T110 y255 (ji81)).f1) - a0_0))] (by rfl) rfl rfl (by (try simp only [List.map_toArray, List.map_cons, List.map_nil]); first | done | (simp only [hji81]; rfl) | rfl | (simp only [List.length_drop, List.length_take]; rfl)) ?_
       with_reducible refine (spec_l21Min.calls ((rd_T110 y255 x8_2).f1) (wrap64 (((rd_T110 y255 (ji81)).f1) - a0_0)) t258 _ A87.out).mono ?_
       rintro e w' ⟨rfl, ⟨nd, rfl⟩⟩
       refine ⟨_, rfl, ?_⟩
       have p88 : 0 ≤ (x8_2 : Int) := za
       have q88 : (x8_2 : Int) < ((x4_2.length : Int) : Int) := za
       obtain ⟨ce88, hcl88, hM88, hcc88, hfr88⟩ := Kd.R_elem HO_4.out z110 (x8_2 : Int) p88 q88
       obtain rfl := k110_openM hM88
       have hx88_0 : World.cell? _ ⟨go86, (x8_2 : Int).toNat * 2, none⟩ = some (.int .i64 ((rd_T110 y255 x8_2).f0)) := hcc88 0 _ rfl
       have hx88_1 : World.cell? _ ⟨go86, (x8_2 : Int).toNat * 2 + 1, none⟩ = some (.int .i64 ((rd_T110 y255 x8_2).f1)) := hcc88 1 _ rfl
       have hf88_0 : World.frozen? _ ⟨go86, (x8_2 : Int).toNat * 2, none⟩ = false := hfr88 0
       have hf88_1 : World.frozen? _ ⟨go86, (x8_2 : Int).toNat * 2 + 1, none⟩ = false := hfr88 1
       clear hcl88 hcc88 hfr88 hM88
       replace p88 := eq_true p88
       replace q88 := eq_true q88
       obtain ⟨ce107, hcl107, hM107, hcc107, hfr107⟩ := Kd.R_elem HO_4.out z110 (x8_2 : Int) (za) (by have h_ : (x8_2 : Int) < ((x4_2.length : Int) : Int) := za; first | exact h_ | (have e_ := (Kd.R_reads' HO_4.out).1; omega) | simpa using h_)
       obtain rfl := k110_openM hM107
       have HP107 := (Kd.R_seg HO_4.out (x8_2 : Int) (za) (by have h_ : (x8_2 : Int) < ((x4_2.length : Int) : Int) := za; first | exact h_ | (have e_ := (Kd.R_reads' HO_4.out).1; omega) | simpa using h_) (seg := [.int .i64 t258]) (j := 1) hcl107 hcc107 (show 2 ≤ 2 from by decide) (x' := (⟨(rd_T110 y255 x8_2).f0, t258⟩ : S110)) (k110_mkM _ _ _ (⟨(rd_T110 y255 x8_2).f0, t258⟩ : S110) ) (fun _ hk => hk)).1
       rw [← Ny259.out] at HP107
       have HQ107 := zA HP107
       clear hcl107 hcc107 hfr107 hM107 HP107
       refine hK.out _ _ ⟨zc0 BK227, zc1 BK227, zc2 BK227, zc3 BK227, zc4 BK227, hHeld.2.2.2.2.2⟩ (fun hHeld => ?_)
       clear hK K
       refine zN ?_
       refine zq HT_ 18 ?_
       refine zq HT_ 19 ?_
       refine zO HT_ 20 (fun K hK => ?_)
       refine skip_ (w1 := ?_) (by rfl) rfl ?_ ?_
       rotate_left
       ·go_simp
        rfl
       refine hK.out _ _ ?_
       clear hK K
       refine done_ (done_of HT_.out (by kernel_rfl)) ?_
       try go_wp2
       obtain ⟨w108, e_⟩ : ∃ x, x = (w106.setCell ⟨go86, (x8_2 : Int).toNat * 2 + 1, none⟩ (.int .i64 t258)) := ⟨_, rfl⟩
       have n0_ : Aside0 (Kd.R k110 110 w108 w.heap.size (fun _ => True) (.slice (some ⟨go86, 0, none⟩) x4_2.length co102) y259) := by rw [e_]; exact ⟨zr HQ107⟩
       have n1_ : Aside0 (w108.heap[gb227]? = some (.cells #[.int .i64 a0_0, .int .i64 a0_1, .slice A0_2 l0_2.length c0_2, .int .i64 a0_3, .int .i64 a0_4] 68 (0, 0))) := by rw [e_]; exact ⟨by (with_reducible repeat (first | refine blk_drewN ?_ _ | refine blk_drew ?_ | refine blk_alloc ?_ _)); refine blk_far ?_ (by have h_ := Kd.R_ne HO_4.out BK227.out (by decide); intro e_; exact h_ (by rw [e_]; rfl)) _; (with_reducible repeat (first | refine blk_drewN ?_ _ | refine blk_drew ?_ | refine blk_alloc ?_ _)); exact BK227.out⟩
       have n2_ : Aside0 (Below w.heap.size w w108) := by rw [e_]; exact ⟨by repeat (first | (with_reducible first | exact HB.out | apply below_alloc | apply pw_below_drewN | apply below_drew1 | refine below_set ?_ GB86.out | refine below_set ?_ GE227.out) | exact HB.out)⟩
       (try clear HO_4)
       (try clear BK227)
       (try clear HB)
       rw [← e_]; clear e_
       have HO_4 := n0_
       have BK227 := n1_
       have HB := n2_
       clear n0_ n1_ n2_
       (try (rw [drewN_self w108]; generalize hq_ : World.drewN w108 _ = w108; replace HO_4 : Aside0 (Kd.R k110 110 w108 w.heap.size (fun _ => True) (.slice (some ⟨go86, 0, none⟩) x4_2.length co102) y259) := ⟨by rw [← hq_]; exact (zr HO_4)⟩; replace BK227 : Aside0 (w108.heap[gb227]? = some (.cells #[.int .i64 a0_0, .int .i64 a0_1, .slice A0_2 l0_2.length c0_2, .int .i64 a0_3, .int .i64 a0_4] 68 (0, 0))) := ⟨by rw [← hq_]; exact (zh BK227)⟩; replace HB : Aside0 (Below w.heap.size w w108) := ⟨by rw [← hq_]; exact (zs1 HB GE227)⟩; clear hq_))
       replace HO_4 := zA (Kd.R_drew HO_4.out)
       replace BK227 := zA (blk_drew BK227.out)
       replace HB := zA (below_drew1 HB.out)
       have p260 : 0 ≤ (x8_2 : Int) := za
       have q260 : x8_2 < (y259.length : Int) := (by have h_ : (x8_2 : Int) < ((x4_2.length : Int) : Int) := za; first | (have e_ := (Kd.R_reads' HO_4.out).1; omega) | simpa only [Ny255.out, Ny259.out, List.length_set] using h_)
       have ql260 : ((x8_2 : Int) < ((x4_2.length : Int) : Int)) = True := eq_true (za)
       obtain ⟨ad260, e260, hx260_0, hx260_1⟩ := at_T110 (Kd.R_reads' HO_4.out).2.2 x8_2 p260 q260
       obtain rfl : (⟨go86, 0, none⟩ : Addr) = ad260 := (by injection e260)
       (first | simp only [add_plain] at hx260_0 | simp only [add_at] at hx260_0 | simp only [Addr.add, Nat.zero_add] at hx260_0 | skip)
       (first | simp only [add_plain] at hx260_1 | simp only [add_at] at hx260_1 | simp only [Addr.add, Nat.zero_add] at hx260_1 | skip)
       replace p260 := eq_true p260
       replace q260 := eq_true q260
       have p261 : 0 ≤ (x8_2 : Int) := za
       have q261 : x8_2 < (y259.length : Int) := (by have h_ : (x8_2 : Int) < ((x4_2.length : Int) : Int) := za; first | (have e_ := (Kd.R_reads' HO_4.out).1; omega) | simpa only [Ny255.out, Ny259.out, List.length_set] using h_)
       have ql261 : ((x8_2 : Int) < ((x4_2.length : Int) : Int)) = True := eq_true (za)
       obtain ⟨ad261, e261, hx261_0, hx261_1⟩ := at_T110 (Kd.R_reads' HO_4.out).2.2 x8_2 p261 q261
       obtain rfl : (⟨go86, 0, none⟩ : Addr) = ad261 := (by injection e261)
       (first | simp only [add_plain] at hx261_0 | simp only [add_at] at hx261_0 | simp only [Addr.add, Nat.zero_add] at hx261_0 | skip)
       (first | simp only [add_plain] at hx261_1 | simp only [add_at] at hx261_1 | simp only [Addr.add, Nat.zero_add] at hx261_1 | skip)
       replace p261 := eq_true p261
       replace q261 := eq_true q261
       refine start_ (n := 11) (S := fun w' => w'.cell? ⟨go86, (x8_2).toNat * 2, none⟩ = some (.int .i64 ((rd_T110 y259 x8_2).f0)) ∧ w'.cell? ⟨go86, (x8_2).toNat * 2 + 1, none⟩ = some (.int .i64 ((rd_T110 y259 x8_2).f1)) ∧ w'.cell? ⟨go86, (x8_2).toNat * 2, none⟩ = some (.int .i64 ((rd_T110 y259 x8_2).f0)) ∧ w'.cell? ⟨go86, (x8_2).toNat * 2 + 1, none⟩ = some (.int .i64 ((rd_T110 y259 x8_2).f1))) (ds := []) #[F,F,F,F,F,F,F,F,F,F,F] (by kernel_rfl) rfl rfl ⟨hx260_0, hx260_1, hx261_0, hx261_1⟩ (fun hHeld => ?_); refine with_tabW spec_l24Spans.tab18 spec_l24Spans.bits18 (fun HT_ HW_ => ?_)
       generalize w108.drew = w109 at HO_4 BK227 HB HQ107 hx260_0 hx260_1 hx261_0 hx261_1 hHeld ⊢
       refine zq HT_ 0 ?_
       refine zq HT_ 1 ?_
       refine zq HT_ 2 ?_
       refine zq HT_ 3 ?_
       refine zq HT_ 5 ?_
       refine zq HT_ 6 ?_
       refine zq HT_ 7 ?_
       refine zq HT_ 8 ?_
       refine zk4 HT_ HW_ hHeld 4 ?_
       refine zk4 HT_ HW_ hHeld 9 ?_
       refine zq HT_ 10 ?_
       refine done_ (done_of HT_.out (by kernel_rfl)) ?_
       try go_wp2
       go_roundg k2
       case measure => have := HK1.out; have := HK2.out; omega
       case rel => exact ⟨(y259), (wrap64 (x8_2 - 1)), zi, H', ⟨by have := HK1.out; have := HK2.out; omega⟩, ⟨zr HO_4⟩, ⟨zh BK227⟩, ⟨zs1 HB GE227⟩⟩
      rw [if_pos c89] at H
      have c89b0 : decide (((rd_T110 y259 x8_2).f1) < ((rd_T110 y259 x8_2).f0)) = true := decide_eq_true c89
      clear c89
      obtain ⟨y262, hy262⟩ : ∃ y_ : List (S110), y_ = (([] : List (S110))) := ⟨_, rfl⟩
      replace H : (some (y262, false)) = some (r1, r2) := by first | (rw [hy262]; with_reducible exact H) | (have H2_ := (Option.bind_some _ _).symm.trans H; rw [hy262]; with_reducible exact H2_) | (have H2_ := (Option.bind_some _ _).symm.trans H; with_reducible exact H2_) | with_reducible exact H | (rw [hy262]; exact H) | exact H
      have Ny262 := zA hy262
      clear hy262
      simp only [Option.some.injEq, Prod.mk.injEq] at H
      obtain ⟨rfl, rfl⟩ := H
      try go_wp2
      replace HO_4 := zA (Kd.R_drew HO_4.out)
      replace BK227 := zA (blk_drew BK227.out)
      replace HB := zA (below_drew1 HB.out)
      obtain ⟨Ao91, co91, eo91⟩ := Kd.R_slice HO_4.out
      (first | subst eo91 | (injection eo91 with f1_ f2_ f3_; have f4_ := f1_.symm; have f5_ := f3_.symm; clear f1_ f2_ f3_; subst f4_; subst f5_))
      have p251 : 0 ≤ (x8_2 : Int) := za
      have q251 : x8_2 < (x4_2.length : Int) := za
      obtain ⟨ad251, e251, hx251_0, hx251_1⟩ := at_T110 (Kd.R_reads' HO_4.out).2.2 x8_2 p251 q251
      cases e251
      replace p251 := eq_true p251
      replace q251 := eq_true q251
      have p252 : 0 ≤ ((ji81) : Int) := za
      have q252 : (ji81) < (x4_2.length : Int) := za
      obtain ⟨ad252, e252, hx252_0, hx252_1⟩ := at_T110 (Kd.R_reads' HO_4.out).2.2 (ji81) p252 q252
      obtain rfl : ad251 = ad252 := (by injection e252)
      replace p252 := eq_true p252
      replace q252 := eq_true q252
      refine start_ (n := 21) (S := fun w' => w'.cell? ⟨gb227, 0, none⟩ = some (.int .i64 a0_0) ∧ w'.cell? ⟨gb227, 1, none⟩ = some (.int .i64 a0_1) ∧ w'.cell? ⟨gb227, 2, none⟩ = some (.slice A0_2 l0_2.length c0_2) ∧ w'.cell? ⟨gb227, 3, none⟩ = some (.int .i64 a0_3) ∧ w'.cell? ⟨gb227, 4, none⟩ = some (.int .i64 a0_4) ∧ w'.cell? (ad251.add ((x8_2).toNat * 2)) = some (.int .i64 ((rd_T110 x4_2 x8_2).f0)) ∧ w'.cell? ⟨(ad251.add ((x8_2).toNat * 2)).block, (ad251.add ((x8_2).toNat * 2)).off + 1, none⟩ = some (.int .i64 ((rd_T110 x4_2 x8_2).f1)) ∧ w'.cell? (ad251.add (((ji81)).toNat * 2)) = some (.int .i64 ((rd_T110 x4_2 (ji81)).f0)) ∧ w'.cell? ⟨(ad251.add (((ji81)).toNat * 2)).block, (ad251.add (((ji81)).toNat * 2)).off + 1, none⟩ = some (.int .i64 ((rd_T110 x4_2 (ji81)).f1))) (ds := [20]) #[F,F,F,F,F,F,F,F,F,F,F,F,F,F,F,F,F,F,F,F,F] (by kernel_rfl) rfl rfl ⟨zc0 BK227, zc1 BK227, zc2 BK227, zc3 BK227, zc4 BK227, hx251_0, hx251_1, hx252_0, hx252_1⟩ (fun hHeld => ?_); refine with_tabW spec_l24Spans.tab16 spec_l24Spans.bits16 (fun HT_ HW_ => ?_)
      generalize wr.drew = w90 at HO_4 BK227 HB hx251_0 hx251_1 hx252_0 hx252_1 hHeld ⊢
      refine zq HT_ 0 ?_
      refine zq HT_ 1 ?_
      refine zq HT_ 2 ?_
      refine zq HT_ 3 ?_
      refine zq HT_ 4 ?_
      refine zq HT_ 5 ?_
      refine zq HT_ 7 ?_
      refine zq HT_ 8 ?_
      refine zq HT_ 9 ?_
      refine zq HT_ 10 ?_
      refine zq HT_ 11 ?_
      refine zq HT_ 14 ?_
      refine zk9 HT_ HW_ hHeld 6 ?_
      refine zk9 HT_ HW_ hHeld 12 ?_
      refine zk9 HT_ HW_ hHeld 13 ?_
      refine zo HT_ 15 (fun K hK => ?_)
      refine zgo Try.func154 #[.agg #[.int .i64 a0_0, .int .i64 a0_1, .slice A0_2 l0_2.length c0_2, .int .i64 a0_3, .int .i64 a0_4], .int .i64 x8_2] ?_
      with_reducible refine (spec_l23Most.calls a0_0 a0_1 _ _ l0_2 a0_3 a0_4 x8_2 t253 _ ?side1 ?side2 A84.out).mono ?_
      (case side1 => exact zC HR0_2 HB)
      (case side2 => exact HC0_2.out)
      rintro e w92 ⟨rfl, hb⟩
      have HS5_ := (hb.cell (World.block_lt_of_cell? _ _ (hHeld.2.2.2.2.2.1))).trans (hHeld.2.2.2.2.2.1)
      have HS6_ := (hb.cell (World.block_lt_of_cell? _ _ (hHeld.2.2.2.2.2.2.1))).trans (hHeld.2.2.2.2.2.2.1)
      have HS7_ := (hb.cell (World.block_lt_of_cell? _ _ (hHeld.2.2.2.2.2.2.2.1))).trans (hHeld.2.2.2.2.2.2.2.1)
      have HS8_ := (hb.cell (World.block_lt_of_cell? _ _ (hHeld.2.2.2.2.2.2.2.2))).trans (hHeld.2.2.2.2.2.2.2.2)
      refine ⟨_, rfl, ?_⟩
      replace HO_4 := zA (Kd.R_below (zr HO_4) hb)
      replace BK227 := zb BK227 hb
      replace HB := zE (zs1 HB GE227) hb
      (try clear hb)
      (try clear hb2)
      (try clear hk)
      (try clear hi)
      refine hK.out _ _ ⟨zc0 BK227, zc1 BK227, zc2 BK227, zc3 BK227, zc4 BK227, HS5_, HS6_, HS7_, HS8_⟩ (fun hHeld => ?_)
      clear hK K
      refine zN ?_
      refine zq HT_ 16 ?_
      refine zo HT_ 17 (fun K hK => ?_)
      refine goes_ Try.func130 (by kernel_rfl) rfl #[.int .i64 ((rd_T110 x4_2 x8_2).f0), .int .i64 (wrap64 (((rd_T110 x4_2 (ji81)).f0) - t253))] (by rfl) rfl rfl (by (try simp only [List.map_toArray, List.map_cons, List.map_nil]); first | done | (simp only [hji81]; rfl) | rfl | (simp only [List.length_drop, List.length_take]; rfl)) ?_
      with_reducible refine (spec_l21Max.calls ((rd_T110 x4_2 x8_2).f0) (wrap64 (((rd_T110 x4_2 (ji81)).f0) - t253)) t254 _ A85.out).mono ?_
      rintro e w' ⟨rfl, ⟨nd, rfl⟩⟩
      refine ⟨_, rfl, ?_⟩
      have p86 : 0 ≤ (x8_2 : Int) := za
      have q86 : (x8_2 : Int) < ((x4_2.length : Int) : Int) := za
      obtain ⟨go86, co86, eo86, gb86, gl86, cl86, HG86⟩ := Kd.R_form HO_4.out (by omega)
      (first | cases eo86 | (injection eo86 with ea_ en_ ec_; (first | subst ea_ | (injection ea_ with ea_; subst ea_)); subst ec_; clear en_))
      have GB86 := zA gb86
      have GG86 := zA HG86
      clear gb86 gl86 HG86
      (first | simp only [add_plain] at hx251_0 | skip)
      (first | simp only [add_plain] at hx251_1 | skip)
      (first | simp only [add_plain] at hx252_0 | skip)
      (first | simp only [add_plain] at hx252_1 | skip)
      obtain ⟨ce86, hcl86, hM86, hcc86, hfr86⟩ := Kd.R_elem HO_4.out z110 (x8_2 : Int) p86 q86
      obtain rfl := k110_openM hM86
      have hx86_0 : World.cell? _ ⟨go86, (x8_2 : Int).toNat * 2, none⟩ = some (.int .i64 ((rd_T110 x4_2 x8_2).f0)) := hcc86 0 _ rfl
      have hx86_1 : World.cell? _ ⟨go86, (x8_2 : Int).toNat * 2 + 1, none⟩ = some (.int .i64 ((rd_T110 x4_2 x8_2).f1)) := hcc86 1 _ rfl
      have hf86_0 : World.frozen? _ ⟨go86, (x8_2 : Int).toNat * 2, none⟩ = false := hfr86 0
      have hf86_1 : World.frozen? _ ⟨go86, (x8_2 : Int).toNat * 2 + 1, none⟩ = false := hfr86 1
      clear hcl86 hcc86 hfr86 hM86
      replace p86 := eq_true p86
      replace q86 := eq_true q86
      obtain ⟨ce93, hcl93, hM93, hcc93, hfr93⟩ := Kd.R_elem HO_4.out z110 (x8_2 : Int) (za) (by have h_ : (x8_2 : Int) < ((x4_2.length : Int) : Int) := za; first | exact h_ | (have e_ := (Kd.R_reads' HO_4.out).1; omega) | simpa using h_)
      obtain rfl := k110_openM hM93
      have HP93 := (Kd.R_seg HO_4.out (x8_2 : Int) (za) (by have h_ : (x8_2 : Int) < ((x4_2.length : Int) : Int) := za; first | exact h_ | (have e_ := (Kd.R_reads' HO_4.out).1; omega) | simpa using h_) (seg := [.int .i64 t254]) (j := 0) hcl93 hcc93 (show 1 ≤ 2 from by decide) (x' := (⟨t254, (rd_T110 x4_2 x8_2).f1⟩ : S110)) (k110_mkM _ _ _ (⟨t254, (rd_T110 x4_2 x8_2).f1⟩ : S110) ) (fun _ hk => hk)).1
      rw [← Ny255.out] at HP93
      have HQ93 := zA HP93
      clear hcl93 hcc93 hfr93 hM93 HP93
      refine hK.out _ _ ⟨zc0 BK227, zc1 BK227, zc2 BK227, zc3 BK227, zc4 BK227, hHeld.2.2.2.2.2⟩ (fun hHeld => ?_)
      clear hK K
      refine zN ?_
      refine zq HT_ 18 ?_
      refine zq HT_ 19 ?_
      refine zO HT_ 20 (fun K hK => ?_)
      refine skip_ (w1 := ?_) (by rfl) rfl ?_ ?_
      rotate_left
      ·go_simp
       rfl
      refine hK.out _ _ ?_
      clear hK K
      refine done_ (done_of HT_.out (by kernel_rfl)) ?_
      try go_wp2
      obtain ⟨w94, e_⟩ : ∃ x, x = (w92.setCell ⟨go86, (x8_2 : Int).toNat * 2, none⟩ (.int .i64 t254)) := ⟨_, rfl⟩
      have n0_ : Aside0 (Kd.R k110 110 w94 w.heap.size (fun _ => True) (.slice (some ⟨go86, 0, none⟩) x4_2.length co91) y255) := by rw [e_]; exact ⟨zr HQ93⟩
      have n1_ : Aside0 (w94.heap[gb227]? = some (.cells #[.int .i64 a0_0, .int .i64 a0_1, .slice A0_2 l0_2.length c0_2, .int .i64 a0_3, .int .i64 a0_4] 68 (0, 0))) := by rw [e_]; exact ⟨by (with_reducible repeat (first | refine blk_drewN ?_ _ | refine blk_drew ?_ | refine blk_alloc ?_ _)); refine blk_far ?_ (by have h_ := Kd.R_ne HO_4.out BK227.out (by decide); intro e_; exact h_ (by rw [e_]; rfl)) _; (with_reducible repeat (first | refine blk_drewN ?_ _ | refine blk_drew ?_ | refine blk_alloc ?_ _)); exact BK227.out⟩
      have n2_ : Aside0 (Below w.heap.size w w94) := by rw [e_]; exact ⟨by repeat (first | (with_reducible first | exact HB.out | apply below_alloc | apply pw_below_drewN | apply below_drew1 | refine below_set ?_ GB86.out | refine below_set ?_ GE227.out) | exact HB.out)⟩
      (try clear HO_4)
      (try clear BK227)
      (try clear HB)
      rw [← e_]; clear e_
      have HO_4 := n0_
      have BK227 := n1_
      have HB := n2_
      clear n0_ n1_ n2_
      (try (rw [drewN_self w94]; generalize hq_ : World.drewN w94 _ = w94; replace HO_4 : Aside0 (Kd.R k110 110 w94 w.heap.size (fun _ => True) (.slice (some ⟨go86, 0, none⟩) x4_2.length co91) y255) := ⟨by rw [← hq_]; exact (zr HO_4)⟩; replace BK227 : Aside0 (w94.heap[gb227]? = some (.cells #[.int .i64 a0_0, .int .i64 a0_1, .slice A0_2 l0_2.length c0_2, .int .i64 a0_3, .int .i64 a0_4] 68 (0, 0))) := ⟨by rw [← hq_]; exact (zh BK227)⟩; replace HB : Aside0 (Below w.heap.size w w94) := ⟨by rw [← hq_]; exact (zs1 HB GE227)⟩; clear hq_))
      replace HO_4 := zA (Kd.R_drew HO_4.out)
      replace BK227 := zA (blk_drew BK227.out)
      replace HB := zA (below_drew1 HB.out)
      have p256 : 0 ≤ (x8_2 : Int) := za
      have q256 : x8_2 < (y255.length : Int) := (by have h_ : (x8_2 : Int) < ((x4_2.length : Int) : Int) := za; first | (have e_ := (Kd.R_reads' HO_4.out).1; omega) | simpa only [Ny255.out, List.length_set] using h_)
      have ql256 : ((x8_2 : Int) < ((x4_2.length : Int) : Int)) = True := eq_true (za)
      obtain ⟨ad256, e256, hx256_0, hx256_1⟩ := at_T110 (Kd.R_reads' HO_4.out).2.2 x8_2 p256 q256
      obtain rfl : (⟨go86, 0, none⟩ : Addr) = ad256 := (by injection e256)
      (first | simp only [add_plain] at hx256_0 | simp only [add_at] at hx256_0 | simp only [Addr.add, Nat.zero_add] at hx256_0 | skip)
      (first | simp only [add_plain] at hx256_1 | simp only [add_at] at hx256_1 | simp only [Addr.add, Nat.zero_add] at hx256_1 | skip)
      replace p256 := eq_true p256
      replace q256 := eq_true q256
      have p257 : 0 ≤ ((ji81) : Int) := za
      have q257 : (ji81) < (y255.length : Int) := (by have h_ : ((ji81) : Int) < ((x4_2.length : Int) : Int) := za; first | (have e_ := (Kd.R_reads' HO_4.out).1; omega) | simpa only [Ny255.out, List.length_set] using h_)
      have ql257 : (((ji81) : Int) < ((x4_2.length : Int) : Int)) = True := eq_true (za)
      obtain ⟨ad257, e257, hx257_0, hx257_1⟩ := at_T110 (Kd.R_reads' HO_4.out).2.2 (ji81) p257 q257
      obtain rfl : (⟨go86, 0, none⟩ : Addr) = ad257 := (by injection e257)
      (first | simp only [add_plain] at hx257_0 | simp only [add_at] at hx257_0 | simp only [Addr.add, Nat.zero_add] at hx257_0 | skip)
      (first | simp only [add_plain] at hx257_1 | simp only [add_at] at hx257_1 | simp only [Addr.add, Nat.zero_add] at hx257_1 | skip)
      replace p257 := eq_true p257
      replace q257 := eq_true q257
      refine start_ (n := 21) (S := fun w' => w'.cell? ⟨gb227, 0, none⟩ = some (.int .i64 a0_0) ∧ w'.cell? ⟨gb227, 1, none⟩ = some (.int .i64 a0_1) ∧ w'.cell? ⟨gb227, 2, none⟩ = some (.slice A0_2 l0_2.length c0_2) ∧ w'.cell? ⟨gb227, 3, none⟩ = some (.int .i64 a0_3) ∧ w'.cell? ⟨gb227, 4, none⟩ = some (.int .i64 a0_4) ∧ w'.cell? ⟨go86, (x8_2).toNat * 2, none⟩ = some (.int .i64 ((rd_T110 y255 x8_2).f0)) ∧ w'.cell? ⟨go86, (x8_2).toNat * 2 + 1, none⟩ = some (.int .i64 ((rd_T110 y255 x8_2).f1)) ∧ w'.cell? ⟨go86, ((ji81)).toNat * 2, none⟩ = some (.int .i64 ((rd_T110 y255 (ji81)).f0)) ∧ w'.cell? ⟨go86, ((ji81)).toNat * 2 + 1, none⟩ = some (.int .i64 ((rd_T110 y255 (ji81)).f1))) (ds := [20]) #[F,F,F,F,F,F,F,F,F,F,F,F,F,F,F,F,F,F,F,F,F] (by kernel_rfl) rfl rfl ⟨zc0 BK227, zc1 BK227, zc2 BK227, zc3 BK227, zc4 BK227, hx256_0, hx256_1, hx257_0, hx257_1⟩ (fun hHeld => ?_); refine with_tabW spec_l24Spans.tab17 spec_l24Spans.bits17 (fun HT_ HW_ => ?_)
      generalize w94.drew = w95 at HO_4 BK227 HB HQ93 hx256_0 hx256_1 hx257_0 hx257_1 hHeld ⊢
      refine zq HT_ 0 ?_
      refine zq HT_ 1 ?_
      refine zq HT_ 2 ?_
      refine zq HT_ 3 ?_
      refine zq HT_ 4 ?_
      refine zq HT_ 5 ?_
      refine zq HT_ 7 ?_
      refine zq HT_ 8 ?_
      refine zq HT_ 9 ?_
      refine zq HT_ 10 ?_
      refine zq HT_ 11 ?_
      refine zq HT_ 13 ?_
      refine zq HT_ 14 ?_
      refine zk9 HT_ HW_ hHeld 6 ?_
      refine zk9 HT_ HW_ hHeld 12 ?_
      refine zk9 HT_ HW_ hHeld 15 ?_
      refine zq HT_ 16 ?_
      refine zo HT_ 17 (fun K hK => ?_)
      refine goes_ Try.func98 (by kernel_rfl) rfl #[.int .i64 ((rd_T110 y255 x8_2).f1), .int .i64 (wrap64 (((rd_T110 y255 (ji81)).f1) - a0_0))] (by rfl) rfl rfl (by (try simp only [List.map_toArray, List.map_cons, List.map_nil]); first | done | (simp only [hji81]; rfl) | rfl | (simp only [List.length_drop, List.length_take]; rfl)) ?_
      with_reducible refine (spec_l21Min.calls ((rd_T110 y255 x8_2).f1) (wrap64 (((rd_T110 y255 (ji81)).f1) - a0_0)) t258 _ A87.out).mono ?_
      rintro e w' ⟨rfl, ⟨nd, rfl⟩⟩
      refine ⟨_, rfl, ?_⟩
      have p88 : 0 ≤ (x8_2 : Int) := za
      have q88 : (x8_2 : Int) < ((x4_2.length : Int) : Int) := za
      obtain ⟨ce88, hcl88, hM88, hcc88, hfr88⟩ := Kd.R_elem HO_4.out z110 (x8_2 : Int) p88 q88
      obtain rfl := k110_openM hM88
      have hx88_0 : World.cell? _ ⟨go86, (x8_2 : Int).toNat * 2, none⟩ = some (.int .i64 ((rd_T110 y255 x8_2).f0)) := hcc88 0 _ rfl
      have hx88_1 : World.cell? _ ⟨go86, (x8_2 : Int).toNat * 2 + 1, none⟩ = some (.int .i64 ((rd_T110 y255 x8_2).f1)) := hcc88 1 _ rfl
      have hf88_0 : World.frozen? _ ⟨go86, (x8_2 : Int).toNat * 2, none⟩ = false := hfr88 0
      have hf88_1 : World.frozen? _ ⟨go86, (x8_2 : Int).toNat * 2 + 1, none⟩ = false := hfr88 1
      clear hcl88 hcc88 hfr88 hM88
      replace p88 := eq_true p88
      replace q88 := eq_true q88
      obtain ⟨ce96, hcl96, hM96, hcc96, hfr96⟩ := Kd.R_elem HO_4.out z110 (x8_2 : Int) (za) (by have h_ : (x8_2 : Int) < ((x4_2.length : Int) : Int) := za; first | exact h_ | (have e_ := (Kd.R_reads' HO_4.out).1; omega) | simpa using h_)
      obtain rfl := k110_openM hM96
      have HP96 := (Kd.R_seg HO_4.out (x8_2 : Int) (za) (by have h_ : (x8_2 : Int) < ((x4_2.length : Int) : Int) := za; first | exact h_ | (have e_ := (Kd.R_reads' HO_4.out).1; omega) | simpa using h_) (seg := [.int .i64 t258]) (j := 1) hcl96 hcc96 (show 2 ≤ 2 from by decide) (x' := (⟨(rd_T110 y255 x8_2).f0, t258⟩ : S110)) (k110_mkM _ _ _ (⟨(rd_T110 y255 x8_2).f0, t258⟩ : S110) ) (fun _ hk => hk)).1
      rw [← Ny259.out] at HP96
      have HQ96 := zA HP96
      clear hcl96 hcc96 hfr96 hM96 HP96
      refine hK.out _ _ ⟨zc0 BK227, zc1 BK227, zc2 BK227, zc3 BK227, zc4 BK227, hHeld.2.2.2.2.2⟩ (fun hHeld => ?_)
      clear hK K
      refine zN ?_
      refine zq HT_ 18 ?_
      refine zq HT_ 19 ?_
      refine zO HT_ 20 (fun K hK => ?_)
      refine skip_ (w1 := ?_) (by rfl) rfl ?_ ?_
      rotate_left
      ·go_simp
       rfl
      refine hK.out _ _ ?_
      clear hK K
      refine done_ (done_of HT_.out (by kernel_rfl)) ?_
      try go_wp2
      obtain ⟨w97, e_⟩ : ∃ x, x = (w95.setCell ⟨go86, (x8_2 : Int).toNat * 2 + 1, none⟩ (.int .i64 t258)) := ⟨_, rfl⟩
      have n0_ : Aside0 (Kd.R k110 110 w97 w.heap.size (fun _ => True) (.slice (some ⟨go86, 0, none⟩) x4_2.length co91) y259) := by rw [e_]; exact ⟨zr HQ96⟩
      have n1_ : Aside0 (w97.heap[gb227]? = some (.cells #[.int .i64 a0_0, .int .i64 a0_1, .slice A0_2 l0_2.length c0_2, .int .i64 a0_3, .int .i64 a0_4] 68 (0, 0))) := by rw [e_]; exact ⟨by (with_reducible repeat (first | refine blk_drewN ?_ _ | refine blk_drew ?_ | refine blk_alloc ?_ _)); refine blk_far ?_ (by have h_ := Kd.R_ne HO_4.out BK227.out (by decide); intro e_; exact h_ (by rw [e_]; rfl)) _; (with_reducible repeat (first | refine blk_drewN ?_ _ | refine blk_drew ?_ | refine blk_alloc ?_ _)); exact BK227.out⟩
      have n2_ : Aside0 (Below w.heap.size w w97) := by rw [e_]; exact ⟨by repeat (first | (with_reducible first | exact HB.out | apply below_alloc | apply pw_below_drewN | apply below_drew1 | refine below_set ?_ GB86.out | refine below_set ?_ GE227.out) | exact HB.out)⟩
      (try clear HO_4)
      (try clear BK227)
      (try clear HB)
      rw [← e_]; clear e_
      have HO_4 := n0_
      have BK227 := n1_
      have HB := n2_
      clear n0_ n1_ n2_
      (try (rw [drewN_self w97]; generalize hq_ : World.drewN w97 _ = w97; replace HO_4 : Aside0 (Kd.R k110 110 w97 w.heap.size (fun _ => True) (.slice (some ⟨go86, 0, none⟩) x4_2.length co91) y259) := ⟨by rw [← hq_]; exact (zr HO_4)⟩; replace BK227 : Aside0 (w97.heap[gb227]? = some (.cells #[.int .i64 a0_0, .int .i64 a0_1, .slice A0_2 l0_2.length c0_2, .int .i64 a0_3, .int .i64 a0_4] 68 (0, 0))) := ⟨by rw [← hq_]; exact (zh BK227)⟩; replace HB : Aside0 (Below w.heap.size w w97) := ⟨by rw [← hq_]; exact (zs1 HB GE227)⟩; clear hq_))
      replace HO_4 := zA (Kd.R_drew HO_4.out)
      replace BK227 := zA (blk_drew BK227.out)
      replace HB := zA (below_drew1 HB.out)
      have p260 : 0 ≤ (x8_2 : Int) := za
      have q260 : x8_2 < (y259.length : Int) := (by have h_ : (x8_2 : Int) < ((x4_2.length : Int) : Int) := za; first | (have e_ := (Kd.R_reads' HO_4.out).1; omega) | simpa only [Ny255.out, Ny259.out, List.length_set] using h_)
      have ql260 : ((x8_2 : Int) < ((x4_2.length : Int) : Int)) = True := eq_true (za)
      obtain ⟨ad260, e260, hx260_0, hx260_1⟩ := at_T110 (Kd.R_reads' HO_4.out).2.2 x8_2 p260 q260
      obtain rfl : (⟨go86, 0, none⟩ : Addr) = ad260 := (by injection e260)
      (first | simp only [add_plain] at hx260_0 | simp only [add_at] at hx260_0 | simp only [Addr.add, Nat.zero_add] at hx260_0 | skip)
      (first | simp only [add_plain] at hx260_1 | simp only [add_at] at hx260_1 | simp only [Addr.add, Nat.zero_add] at hx260_1 | skip)
      replace p260 := eq_true p260
      replace q260 := eq_true q260
      have p261 : 0 ≤ (x8_2 : Int) := za
      have q261 : x8_2 < (y259.length : Int) := (by have h_ : (x8_2 : Int) < ((x4_2.length : Int) : Int) := za; first | (have e_ := (Kd.R_reads' HO_4.out).1; omega) | simpa only [Ny255.out, Ny259.out, List.length_set] using h_)
      have ql261 : ((x8_2 : Int) < ((x4_2.length : Int) : Int)) = True := eq_true (za)
      obtain ⟨ad261, e261, hx261_0, hx261_1⟩ := at_T110 (Kd.R_reads' HO_4.out).2.2 x8_2 p261 q261
      obtain rfl : (⟨go86, 0, none⟩ : Addr) = ad261 := (by injection e261)
      (first | simp only [add_plain] at hx261_0 | simp only [add_at] at hx261_0 | simp only [Addr.add, Nat.zero_add] at hx261_0 | skip)
      (first | simp only [add_plain] at hx261_1 | simp only [add_at] at hx261_1 | simp only [Addr.add, Nat.zero_add] at hx261_1 | skip)
      replace p261 := eq_true p261
      replace q261 := eq_true q261
      refine start_ (n := 11) (S := fun w' => w'.cell? ⟨go86, (x8_2).toNat * 2, none⟩ = some (.int .i64 ((rd_T110 y259 x8_2).f0)) ∧ w'.cell? ⟨go86, (x8_2).toNat * 2 + 1, none⟩ = some (.int .i64 ((rd_T110 y259 x8_2).f1)) ∧ w'.cell? ⟨go86, (x8_2).toNat * 2, none⟩ = some (.int .i64 ((rd_T110 y259 x8_2).f0)) ∧ w'.cell? ⟨go86, (x8_2).toNat * 2 + 1, none⟩ = some (.int .i64 ((rd_T110 y259 x8_2).f1))) (ds := []) #[F,F,F,F,F,F,F,F,F,F,F] (by kernel_rfl) rfl rfl ⟨hx260_0, hx260_1, hx261_0, hx261_1⟩ (fun hHeld => ?_); refine with_tabW spec_l24Spans.tab18 spec_l24Spans.bits18 (fun HT_ HW_ => ?_)
      generalize w97.drew = w98 at HO_4 BK227 HB HQ96 hx260_0 hx260_1 hx261_0 hx261_1 hHeld ⊢
      refine zq HT_ 0 ?_
      refine zq HT_ 1 ?_
      refine zq HT_ 2 ?_
      refine zq HT_ 3 ?_
      refine zq HT_ 5 ?_
      refine zq HT_ 6 ?_
      refine zq HT_ 7 ?_
      refine zq HT_ 8 ?_
      refine zk4 HT_ HW_ hHeld 4 ?_
      refine zk4 HT_ HW_ hHeld 9 ?_
      refine zq HT_ 10 ?_
      refine done_ (done_of HT_.out (by kernel_rfl)) ?_
      try go_wp2_with (first | ((with_reducible refine gate_dst (N := 123) rfl ?_); refine Kd.R_lit k110 _ 110 ?hg (N := 123) ?hd (xs := ([] : List (S110))) (inner := []) (ok := fun _ => True) (okp := fun _ => True) ?hr ?hp (fun _ hk => hk) trivial (Below.refl _ _) (Nat.le_refl _) (by simp) ?_; (case hd => rfl); (case hg => rfl); (case hr => first | (go_simp; done) | (go_simp; rfl)); (case hp => exact (Reps.none _ _)); intro v263 w99 ho100 hb hg_ hnew_; clear hg_ hnew_; (first | rw [← Ny262.out] at ho100 | (simp only [Int.reduceToNat] at ho100; rw [← Ny262.out] at ho100)); have HO264 := zA (Kd.R_lower (Kd.R_new' ho100 (Kd.R_lt (zr HO_4))) (below_size (zs1 HB GE227))); replace HO_4 := zA (Kd.R_elder' (zr HO_4) (Kd.R_base ho100) hb); replace BK227 := zb BK227 hb; replace HB := zE (zs1 HB GE227) hb; clear hb ho100))
      go_ret2
      exact ⟨_, by first | rfl | (simp [errW_none, errW_some] <;> rfl) | (simp only [← hji81]; first | rfl | (simp [errW_none, errW_some] <;> rfl)) | (simp [*, errW_none, errW_some] <;> rfl), by (with_reducible repeat (first | apply Kd.R_alloc | apply Kd.R_drewN | apply Kd.R_drew)); exact Kd.R_mono HO264.out (fun _ hk => trivial), zs1 HB GE227⟩
   rw [if_pos c6] at H
   have c6b0 : decide (x6_1 ≤ (l0_2.length : Int)) = true := decide_eq_true c6
   clear c6
   replace H := zbd H; obtain ⟨t231, A7, H⟩ := H
   replace H := Option.bind_eq_some_iff.mp H
   obtain ⟨t232, A80, H⟩ := H
   replace H : (if x6_1 > 0 then (if 0 ≤ (wrap64 (x6_1 - 1)) then (if (wrap64 (x6_1 - 1)) < (x4_1.length : Int) then ((spec_l21Max.f t231 (wrap64 (((rd_T110 x4_1 (wrap64 (x6_1 - 1))).f0) + a0_0))).bind fun t235 => ((spec_l23Most.f a0_0 a0_1 l0_2 a0_3 a0_4 (wrap64 (x6_1 - 1))).bind fun t237 => ((spec_l21Min.f t232 (wrap64 (((rd_T110 x4_1 (wrap64 (x6_1 - 1))).f1) + t237))).bind fun t238 => (if t235 > t238 then (some ((([] : List (S110))), false)) else (if x4_1.length < 8796093022208 then (spec_l24Spans.l0 k1 (x4_1 ++ [(⟨t235, t238⟩ : S110)]) (l0_2.length : Int) (wrap64 (x6_1 + 1)) a0_0 a0_1 l0_2 a0_3 a0_4) else (none)))))) else (none)) else (none)) else (if t231 > t232 then (some ((([] : List (S110))), false)) else (if x4_1.length < 8796093022208 then (spec_l24Spans.l0 k1 (x4_1 ++ [(⟨t231, t232⟩ : S110)]) (l0_2.length : Int) (wrap64 (x6_1 + 1)) a0_0 a0_1 l0_2 a0_3 a0_4) else (none)))) = some (r1, r2) := H
   have A8 := zA A80
   clear A80
   by_cases c9 : x6_1 > 0
   rotate_left
   ·rw [if_neg c9] at H
    have c9b0 : decide (0 < x6_1) = false := decide_eq_false c9
    clear c9
    by_cases c55 : t231 > t232
    ·rw [if_pos c55] at H
     have c55b0 : decide (t232 < t231) = true := decide_eq_true c55
     clear c55
     obtain ⟨y245, hy245⟩ : ∃ y_ : List (S110), y_ = (([] : List (S110))) := ⟨_, rfl⟩
     replace H : (some (y245, false)) = some (r1, r2) := by first | (rw [hy245]; with_reducible exact H) | (have H2_ := (Option.bind_some _ _).symm.trans H; rw [hy245]; with_reducible exact H2_) | (have H2_ := (Option.bind_some _ _).symm.trans H; with_reducible exact H2_) | with_reducible exact H | (rw [hy245]; exact H) | exact H
     have Ny245 := zA hy245
     clear hy245
     simp only [Option.some.injEq, Prod.mk.injEq] at H
     obtain ⟨rfl, rfl⟩ := H
     try go_wp2
     replace HO_4 := zA (Kd.R_drew HO_4.out)
     replace BK227 := zA (blk_drew BK227.out)
     replace HB := zA (below_drew1 HB.out)
     refine start_ (n := 9) (S := fun w' => w'.cell? ⟨gb227, 0, none⟩ = some (.int .i64 a0_0) ∧ w'.cell? ⟨gb227, 1, none⟩ = some (.int .i64 a0_1) ∧ w'.cell? ⟨gb227, 2, none⟩ = some (.slice A0_2 l0_2.length c0_2) ∧ w'.cell? ⟨gb227, 3, none⟩ = some (.int .i64 a0_3) ∧ w'.cell? ⟨gb227, 4, none⟩ = some (.int .i64 a0_4)) (ds := []) #[F,F,F,F,F,F,F,F,F] (by kernel_rfl) rfl rfl ⟨zc0 BK227, zc1 BK227, zc2 BK227, zc3 BK227, zc4 BK227⟩ (fun hHeld => ?_); refine with_tabW spec_l24Spans.tab6 spec_l24Spans.bits6 (fun HT_ HW_ => ?_)
     generalize wr.drew = w56 at HO_4 BK227 HB hHeld ⊢
     refine zq HT_ 1 ?_
     refine zq HT_ 4 ?_
     refine zk5 HT_ HW_ hHeld 0 ?_
     refine zk5 HT_ HW_ hHeld 3 ?_
     refine join_ (σ := Nat) 1 #[T,T,T,T,T,T,T,T,F] (fun s_ => [(20, .int .i64 t231), (23, .int .i64 t232), (7, .pointer (some ⟨s_, 0, none⟩)), (24, .agg #[.int .i64 t231, .int .i64 t232])]) (fun s_ w' => (w'.cell? ⟨gb227, 0, none⟩ = some (.int .i64 a0_0) ∧ w'.cell? ⟨gb227, 1, none⟩ = some (.int .i64 a0_1) ∧ w'.cell? ⟨gb227, 2, none⟩ = some (.slice A0_2 l0_2.length c0_2) ∧ w'.cell? ⟨gb227, 3, none⟩ = some (.int .i64 a0_3) ∧ w'.cell? ⟨gb227, 4, none⟩ = some (.int .i64 a0_4)) ∧ (Kd.R k110 110 w' w.heap.size (fun k_ => k_ ≠ s_) u4 x4_1) ∧ (w'.heap[gb227]? = some (.cells #[.int .i64 a0_0, .int .i64 a0_1, .slice A0_2 l0_2.length c0_2, .int .i64 a0_3, .int .i64 a0_4] 68 (0, 0))) ∧ (w'.heap[s_]? = some (.cells #[.int .i64 0, .int .i64 0] 110 (0, 0))) ∧ (w.heap.size ≤ s_) ∧ (w.heap.size ≤ s_) ∧ (gb227 ≠ s_) ∧ (s_ ≠ gb227) ∧ (Below w.heap.size w w')) ?_ ?_
     rotate_left
     ·intro hCont
      refine two_ (i := 2) (j := 7) (Ni := some 20) (Nj := some 7) #[T,T,T,T,T,F,F,F,F] #[T,T,F,T,T,F,F,T,F] rfl rfl rfl rfl (two_of HT_.out (by kernel_rfl)) (by decide) (by decide) (fun K hK => ?_) (fun K hK => ?_)
      ·skip
       refine zgo Try.func152 #[.agg #[.int .i64 a0_0, .int .i64 a0_1, .slice A0_2 l0_2.length c0_2, .int .i64 a0_3, .int .i64 a0_4], .int .i64 x6_1] ?_
       with_reducible refine (spec_l23Low.calls a0_0 a0_1 _ _ l0_2 a0_3 a0_4 x6_1 t231 _ ?side1 ?side2 A7.out).mono ?_
       (case side1 => exact zC HR0_2 HB)
       (case side2 => exact HC0_2.out)
       rintro e w57 ⟨rfl, hb⟩
       refine ⟨_, rfl, ?_⟩
       replace HO_4 := zA (Kd.R_below (zr HO_4) hb)
       replace BK227 := zb BK227 hb
       replace HB := zE (zs1 HB GE227) hb
       (try clear hb)
       (try clear hb2)
       (try clear hk)
       (try clear hi)
       refine hK.out _ _ ⟨zc0 BK227, zc1 BK227, zc2 BK227, zc3 BK227, zc4 BK227⟩ (fun hHeld => ?_)
       clear hK K
       refine zN ?_
       refine two_ (i := 5) (j := 7) (Ni := some 23) (Nj := some 7) #[T,T,T,T,T,T,F,F,F] #[T,T,T,T,T,F,F,T,F] rfl rfl rfl rfl (two_of HT_.out (by kernel_rfl)) (by decide) (by decide) (fun K hK => ?_) (fun K hK => ?_)
       ·skip
        refine zgo Try.func153 #[.agg #[.int .i64 a0_0, .int .i64 a0_1, .slice A0_2 l0_2.length c0_2, .int .i64 a0_3, .int .i64 a0_4], .int .i64 x6_1] ?_
        with_reducible refine (spec_l23High.calls a0_0 a0_1 _ _ l0_2 a0_3 a0_4 x6_1 t232 _ ?side1 ?side2 A8.out).mono ?_
        (case side1 => exact zC HR0_2 HB)
        (case side2 => exact HC0_2.out)
        rintro e w58 ⟨rfl, hb⟩
        refine ⟨_, rfl, ?_⟩
        replace HO_4 := zA (Kd.R_below (zr HO_4) hb)
        replace BK227 := zb BK227 hb
        replace HB := zE (zs1 HB GE227) hb
        (try clear hb)
        (try clear hb2)
        (try clear hk)
        (try clear hi)
        refine hK.out _ _ ⟨zc0 BK227, zc1 BK227, zc2 BK227, zc3 BK227, zc4 BK227⟩ (fun hHeld => ?_)
        clear hK K
        refine zN ?_
        refine zq HT_ 6 ?_
        refine zo HT_ 7 (fun K hK => ?_)
        refine box_step (by rfl) (N := 7) (by rfl) (cs := #[.int .i64 0, .int .i64 0]) (t := 110) zg ?_
        intro gb233 hg w59 hbox hb
        have BK233 := zA hbox
        have GW233 := zgs hg (zs1 HB GE227)
        have GE233 := zgs hg (zs1 HB GE227)
        have NB227_233 := zne hg BK227
        have NB233_227 := znf hg BK227
        replace HO_4 := zA (Kd.R_below (Kd.R_elderB (zr HO_4) gb233 (Nat.le_of_eq hg.symm)) hb)
        replace BK227 := zb BK227 hb
        replace HB := zE (zs1 HB GE227) hb
        clear hb hbox hg
        refine hK.out _ _ ⟨zc0 BK227, zc1 BK227, zc2 BK227, zc3 BK227, zc4 BK227⟩ (fun hHeld => ?_)
        clear hK K
        refine zN ?_
        exact norm_ (by simp only [putAll, Act.put, List.setIfInBounds_toArray, List.set_cons_zero, List.set_cons_succ]) (hCont (gb233) _ ⟨hHeld, (by (with_reducible repeat (first | apply Kd.R_alloc | apply Kd.R_drewN | apply Kd.R_drew)); exact Kd.R_mono HO_4.out (fun _ hk => hk.2)), (zh BK227), (zh BK233), GW233.out, GE233.out, NB227_233.out, NB233_227.out, (zs2 HB GE227 GE233)⟩)
       ·skip
        refine box_step (by rfl) (N := 7) (by rfl) (cs := #[.int .i64 0, .int .i64 0]) (t := 110) zg ?_
        intro gb233 hg w58 hbox hb
        have BK233 := zA hbox
        have GW233 := zgs hg (zs1 HB GE227)
        have GE233 := zgs hg (zs1 HB GE227)
        have NB227_233 := zne hg BK227
        have NB233_227 := znf hg BK227
        replace HO_4 := zA (Kd.R_below (Kd.R_elderB (zr HO_4) gb233 (Nat.le_of_eq hg.symm)) hb)
        replace BK227 := zb BK227 hb
        replace HB := zE (zs1 HB GE227) hb
        clear hb hbox hg
        refine hK.out _ _ ⟨zc0 BK227, zc1 BK227, zc2 BK227, zc3 BK227, zc4 BK227⟩ (fun hHeld => ?_)
        clear hK K
        refine zN ?_
        refine zo HT_ 5 (fun K hK => ?_)
        refine zgo Try.func153 #[.agg #[.int .i64 a0_0, .int .i64 a0_1, .slice A0_2 l0_2.length c0_2, .int .i64 a0_3, .int .i64 a0_4], .int .i64 x6_1] ?_
        with_reducible refine (spec_l23High.calls a0_0 a0_1 _ _ l0_2 a0_3 a0_4 x6_1 t232 _ ?side1 ?side2 A8.out).mono ?_
        (case side1 => exact zC HR0_2 HB)
        (case side2 => exact HC0_2.out)
        rintro e w59 ⟨rfl, hb⟩
        refine ⟨_, rfl, ?_⟩
        replace HO_4 := zA (Kd.R_below (zr HO_4) hb)
        replace BK227 := zb BK227 hb
        replace BK233 := zb BK233 hb
        replace HB := zE (zs2 HB GE227 GE233) hb
        (try clear hb)
        (try clear hb2)
        (try clear hk)
        (try clear hi)
        refine hK.out _ _ ⟨zc0 BK227, zc1 BK227, zc2 BK227, zc3 BK227, zc4 BK227⟩ (fun hHeld => ?_)
        clear hK K
        refine zN ?_
        refine zq HT_ 6 ?_
        exact norm_ (by simp only [putAll, Act.put, List.setIfInBounds_toArray, List.set_cons_zero, List.set_cons_succ]) (hCont (gb233) _ ⟨hHeld, (by (with_reducible repeat (first | apply Kd.R_alloc | apply Kd.R_drewN | apply Kd.R_drew)); exact Kd.R_mono HO_4.out (fun _ hk => hk.2)), (zh BK227), (zh BK233), GW233.out, GE233.out, NB227_233.out, NB233_227.out, (zs2 HB GE227 GE233)⟩)
      ·skip
       refine box_step (by rfl) (N := 7) (by rfl) (cs := #[.int .i64 0, .int .i64 0]) (t := 110) zg ?_
       intro gb233 hg w57 hbox hb
       have BK233 := zA hbox
       have GW233 := zgs hg (zs1 HB GE227)
       have GE233 := zgs hg (zs1 HB GE227)
       have NB227_233 := zne hg BK227
       have NB233_227 := znf hg BK227
       replace HO_4 := zA (Kd.R_below (Kd.R_elderB (zr HO_4) gb233 (Nat.le_of_eq hg.symm)) hb)
       replace BK227 := zb BK227 hb
       replace HB := zE (zs1 HB GE227) hb
       clear hb hbox hg
       refine hK.out _ _ ⟨zc0 BK227, zc1 BK227, zc2 BK227, zc3 BK227, zc4 BK227⟩ (fun hHeld => ?_)
       clear hK K
       refine zN ?_
       refine zo HT_ 2 (fun K hK => ?_)
       refine zgo Try.func152 #[.agg #[.int .i64 a0_0, .int .i64 a0_1, .slice A0_2 l0_2.length c0_2, .int .i64 a0_3, .int .i64 a0_4], .int .i64 x6_1] ?_
       with_reducible refine (spec_l23Low.calls a0_0 a0_1 _ _ l0_2 a0_3 a0_4 x6_1 t231 _ ?side1 ?side2 A7.out).mono ?_
       (case side1 => exact zC HR0_2 HB)
       (case side2 => exact HC0_2.out)
       rintro e w58 ⟨rfl, hb⟩
       refine ⟨_, rfl, ?_⟩
       replace HO_4 := zA (Kd.R_below (zr HO_4) hb)
       replace BK227 := zb BK227 hb
       replace BK233 := zb BK233 hb
       replace HB := zE (zs2 HB GE227 GE233) hb
       (try clear hb)
       (try clear hb2)
       (try clear hk)
       (try clear hi)
       refine hK.out _ _ ⟨zc0 BK227, zc1 BK227, zc2 BK227, zc3 BK227, zc4 BK227⟩ (fun hHeld => ?_)
       clear hK K
       refine zN ?_
       refine zo HT_ 5 (fun K hK => ?_)
       refine zgo Try.func153 #[.agg #[.int .i64 a0_0, .int .i64 a0_1, .slice A0_2 l0_2.length c0_2, .int .i64 a0_3, .int .i64 a0_4], .int .i64 x6_1] ?_
       with_reducible refine (spec_l23High.calls a0_0 a0_1 _ _ l0_2 a0_3 a0_4 x6_1 t232 _ ?side1 ?side2 A8.out).mono ?_
       (case side1 => exact zC HR0_2 HB)
       (case side2 => exact HC0_2.out)
       rintro e w59 ⟨rfl, hb⟩
       refine ⟨_, rfl, ?_⟩
       replace HO_4 := zA (Kd.R_below (zr HO_4) hb)
       replace BK227 := zb BK227 hb
       replace BK233 := zb BK233 hb
       replace HB := zE (zs2 HB GE227 GE233) hb
       (try clear hb)
       (try clear hb2)
       (try clear hk)
       (try clear hi)
       refine hK.out _ _ ⟨zc0 BK227, zc1 BK227, zc2 BK227, zc3 BK227, zc4 BK227⟩ (fun hHeld => ?_)
       clear hK K
       refine zN ?_
       refine zq HT_ 6 ?_
       exact norm_ (by simp only [putAll, Act.put, List.setIfInBounds_toArray, List.set_cons_zero, List.set_cons_succ]) (hCont (gb233) _ ⟨hHeld, (by (with_reducible repeat (first | apply Kd.R_alloc | apply Kd.R_drewN | apply Kd.R_drew)); exact Kd.R_mono HO_4.out (fun _ hk => hk.2)), (zh BK227), (zh BK233), GW233.out, GE233.out, NB227_233.out, NB233_227.out, (zs2 HB GE227 GE233)⟩)
     rintro gb233 w60 ⟨hS_, h0_, h1_, h2_, h3_, h4_, h5_, h6_, h7_⟩
     have BK233 : Aside0 (w60.heap[gb233]? = some (.cells #[.int .i64 0, .int .i64 0] 110 (0, 0))) := ⟨h2_⟩
     have GW233 : Aside0 (w.heap.size ≤ gb233) := ⟨h3_⟩
     have GE233 : Aside0 (w.heap.size ≤ gb233) := ⟨h4_⟩
     have NB227_233 : Aside0 (gb227 ≠ gb233) := ⟨h5_⟩
     have NB233_227 : Aside0 (gb233 ≠ gb227) := ⟨h6_⟩
     replace HO_4 : Aside0 (Kd.R k110 110 w60 w.heap.size (fun k_ => k_ ≠ gb233) u4 x4_1) := ⟨h0_⟩
     replace BK227 : Aside0 (w60.heap[gb227]? = some (.cells #[.int .i64 a0_0, .int .i64 a0_1, .slice A0_2 l0_2.length c0_2, .int .i64 a0_3, .int .i64 a0_4] 68 (0, 0))) := ⟨h1_⟩
     replace HB : Aside0 (Below w.heap.size w w60) := ⟨h7_⟩
     clear h0_ h1_ h2_ h3_ h4_ h5_ h6_ h7_
     have hHeld : w60.cell? ⟨gb227, 0, none⟩ = some (.int .i64 a0_0) ∧ w60.cell? ⟨gb227, 1, none⟩ = some (.int .i64 a0_1) ∧ w60.cell? ⟨gb227, 2, none⟩ = some (.slice A0_2 l0_2.length c0_2) ∧ w60.cell? ⟨gb227, 3, none⟩ = some (.int .i64 a0_3) ∧ w60.cell? ⟨gb227, 4, none⟩ = some (.int .i64 a0_4) := hS_
     refine norm_ (a' := ?_) ?_ ?_
     rotate_left
     ·simp only [putAll, Act.put, List.setIfInBounds_toArray, List.set_cons_zero, List.set_cons_succ]
      rfl
     refine zo HT_ 8 (fun K hK => ?_)
     have hs61 : w60.cell? ⟨gb233, 0, none⟩ = some (.int .i64 0) := zc0 BK233
     have hfs61 := zf BK233 0
     have hns61_0 := NB227_233.out
     have hms61_0 := NB233_227.out
     have hs62 : w60.cell? ⟨gb233, 1, none⟩ = some (.int .i64 0) := zc1 BK233
     have hfs62 := zf BK233 1
     have hns62_0 := NB227_233.out
     have hms62_0 := NB233_227.out
     refine skip_ (w1 := ?_) (by rfl) rfl ?_ ?_
     rotate_left
     ·go_simp
      rfl
     refine hK.out _ _ (zcf hHeld NB227_233) (fun hHeld => ?_)
     clear hK K
     refine done_ (done_of HT_.out (by kernel_rfl)) ?_
     have hnb63 := NB233_227.out
     have hnc63 := NB227_233.out
     obtain ⟨hcz64_0, hcz64_1⟩ := zd2 BK233
     obtain ⟨hfz64_0, hfz64_1⟩ := zn2 BK233
     try go_wp2_with (first | ((with_reducible refine gate_dst (N := 61) rfl ?_); refine Kd.R_lit k110 _ 110 ?hg (N := 61) ?hd (xs := ([] : List (S110))) (inner := []) (ok := fun _ => True) (okp := fun _ => True) ?hr ?hp (fun _ hk => hk) trivial (Below.refl _ _) (Nat.le_refl _) (by simp) ?_; (case hd => rfl); (case hg => rfl); (case hr => first | (go_simp; done) | (go_simp; rfl)); (case hp => exact (Reps.none _ _)); intro v246 w65 ho66 hb hg_ hnew_; clear hg_ hnew_; (first | rw [← Ny245.out] at ho66 | (simp only [Int.reduceToNat] at ho66; rw [← Ny245.out] at ho66)); have HO247 := zA (Kd.R_lower (Kd.R_newB (Kd.R_new' ho66 (Kd.R_lt (by (with_reducible repeat (first | apply Kd.R_alloc | apply Kd.R_drewN | apply Kd.R_drew)); exact (Kd.R_mono (Kd.R_far (p := ⟨gb233, 1, none⟩) (Kd.R_far (p := ⟨gb233, 0, none⟩) (Kd.R_mono HO_4.out (fun k_ hk => (⟨hk, hk⟩ : _ ∧ k_ ≠ gb233))) (fun _ hk => hk.2) (.int .i64 t231)) (fun _ hk => hk.2) (.int .i64 t232)) (fun _ h_ => h_.1))))) (g := gb233) (o := .cells #[.int .i64 t231, .int .i64 t232] 110 (0, 0)) (zpb BK233)) (below_size (zs2 HB GE227 GE233))); replace HO_4 := zA (Kd.R_elder' (by (with_reducible repeat (first | apply Kd.R_alloc | apply Kd.R_drewN | apply Kd.R_drew)); exact (Kd.R_mono (Kd.R_far (p := ⟨gb233, 1, none⟩) (Kd.R_far (p := ⟨gb233, 0, none⟩) (Kd.R_mono HO_4.out (fun k_ hk => (⟨hk, hk⟩ : _ ∧ k_ ≠ gb233))) (fun _ hk => hk.2) (.int .i64 t231)) (fun _ hk => hk.2) (.int .i64 t232)) (fun _ h_ => h_.1))) (Kd.R_base ho66) hb); replace BK227 := zA (blk_below (g := gb227) (o := .cells #[.int .i64 a0_0, .int .i64 a0_1, .slice A0_2 l0_2.length c0_2, .int .i64 a0_3, .int .i64 a0_4] 68 (0, 0)) (zpf BK227 NB227_233) hb); replace BK233 := zA (blk_below (g := gb233) (o := .cells #[.int .i64 t231, .int .i64 t232] 110 (0, 0)) (zpb BK233) hb); replace HB := zE (zs2 HB GE227 GE233) hb; clear hb ho66))
     go_ret2
     exact ⟨_, ze, by (with_reducible repeat (first | apply Kd.R_alloc | apply Kd.R_drewN | apply Kd.R_drew)); exact Kd.R_mono HO247.out (fun _ hk => trivial), zs2 HB GE227 GE233⟩
    rw [if_neg c55] at H
    have c55b0 : decide (t232 < t231) = false := decide_eq_false c55
    clear c55
    by_cases c67 : x4_1.length < 8796093022208
    rotate_left
    ·rw [if_neg c67] at H
     exact absurd H (by simp)
    rw [if_pos c67] at H
    have LMc67 := zA c67
    clear c67
    obtain ⟨y248, hy248⟩ : ∃ y_ : List (S110), y_ = (x4_1 ++ [(⟨t231, t232⟩ : S110)]) := ⟨_, rfl⟩
    replace H : (spec_l24Spans.l0 k1 y248 (l0_2.length : Int) (wrap64 (x6_1 + 1)) a0_0 a0_1 l0_2 a0_3 a0_4) = some (r1, r2) := by first | (rw [hy248]; with_reducible exact H) | (have H2_ := (Option.bind_some _ _).symm.trans H; rw [hy248]; with_reducible exact H2_) | (have H2_ := (Option.bind_some _ _).symm.trans H; with_reducible exact H2_) | with_reducible exact H | (rw [hy248]; exact H) | exact H
    have Ny248 := zA hy248
    clear hy248
    have H' := zA H
    clear H
    try go_wp2
    replace HO_4 := zA (Kd.R_drew HO_4.out)
    replace BK227 := zA (blk_drew BK227.out)
    replace HB := zA (below_drew1 HB.out)
    refine start_ (n := 9) (S := fun w' => w'.cell? ⟨gb227, 0, none⟩ = some (.int .i64 a0_0) ∧ w'.cell? ⟨gb227, 1, none⟩ = some (.int .i64 a0_1) ∧ w'.cell? ⟨gb227, 2, none⟩ = some (.slice A0_2 l0_2.length c0_2) ∧ w'.cell? ⟨gb227, 3, none⟩ = some (.int .i64 a0_3) ∧ w'.cell? ⟨gb227, 4, none⟩ = some (.int .i64 a0_4)) (ds := []) #[F,F,F,F,F,F,F,F,F] (by kernel_rfl) rfl rfl ⟨zc0 BK227, zc1 BK227, zc2 BK227, zc3 BK227, zc4 BK227⟩ (fun hHeld => ?_); refine with_tabW spec_l24Spans.tab6 spec_l24Spans.bits6 (fun HT_ HW_ => ?_)
    generalize wr.drew = w68 at HO_4 BK227 HB hHeld ⊢
    refine zq HT_ 1 ?_
    refine zq HT_ 4 ?_
    refine zk5 HT_ HW_ hHeld 0 ?_
    refine zk5 HT_ HW_ hHeld 3 ?_
    refine join_ (σ := Nat) 1 #[T,T,T,T,T,T,T,T,F] (fun s_ => [(20, .int .i64 t231), (23, .int .i64 t232), (7, .pointer (some ⟨s_, 0, none⟩)), (24, .agg #[.int .i64 t231, .int .i64 t232])]) (fun s_ w' => (w'.cell? ⟨gb227, 0, none⟩ = some (.int .i64 a0_0) ∧ w'.cell? ⟨gb227, 1, none⟩ = some (.int .i64 a0_1) ∧ w'.cell? ⟨gb227, 2, none⟩ = some (.slice A0_2 l0_2.length c0_2) ∧ w'.cell? ⟨gb227, 3, none⟩ = some (.int .i64 a0_3) ∧ w'.cell? ⟨gb227, 4, none⟩ = some (.int .i64 a0_4)) ∧ (Kd.R k110 110 w' w.heap.size (fun k_ => k_ ≠ s_) u4 x4_1) ∧ (w'.heap[gb227]? = some (.cells #[.int .i64 a0_0, .int .i64 a0_1, .slice A0_2 l0_2.length c0_2, .int .i64 a0_3, .int .i64 a0_4] 68 (0, 0))) ∧ (w'.heap[s_]? = some (.cells #[.int .i64 0, .int .i64 0] 110 (0, 0))) ∧ (w.heap.size ≤ s_) ∧ (w.heap.size ≤ s_) ∧ (gb227 ≠ s_) ∧ (s_ ≠ gb227) ∧ (Below w.heap.size w w')) ?_ ?_
    rotate_left
    ·intro hCont
     refine two_ (i := 2) (j := 7) (Ni := some 20) (Nj := some 7) #[T,T,T,T,T,F,F,F,F] #[T,T,F,T,T,F,F,T,F] rfl rfl rfl rfl (two_of HT_.out (by kernel_rfl)) (by decide) (by decide) (fun K hK => ?_) (fun K hK => ?_)
     ·skip
      refine zgo Try.func152 #[.agg #[.int .i64 a0_0, .int .i64 a0_1, .slice A0_2 l0_2.length c0_2, .int .i64 a0_3, .int .i64 a0_4], .int .i64 x6_1] ?_
      with_reducible refine (spec_l23Low.calls a0_0 a0_1 _ _ l0_2 a0_3 a0_4 x6_1 t231 _ ?side1 ?side2 A7.out).mono ?_
      (case side1 => exact zC HR0_2 HB)
      (case side2 => exact HC0_2.out)
      rintro e w69 ⟨rfl, hb⟩
      refine ⟨_, rfl, ?_⟩
      replace HO_4 := zA (Kd.R_below (zr HO_4) hb)
      replace BK227 := zb BK227 hb
      replace HB := zE (zs1 HB GE227) hb
      (try clear hb)
      (try clear hb2)
      (try clear hk)
      (try clear hi)
      refine hK.out _ _ ⟨zc0 BK227, zc1 BK227, zc2 BK227, zc3 BK227, zc4 BK227⟩ (fun hHeld => ?_)
      clear hK K
      refine zN ?_
      refine two_ (i := 5) (j := 7) (Ni := some 23) (Nj := some 7) #[T,T,T,T,T,T,F,F,F] #[T,T,T,T,T,F,F,T,F] rfl rfl rfl rfl (two_of HT_.out (by kernel_rfl)) (by decide) (by decide) (fun K hK => ?_) (fun K hK => ?_)
      ·skip
       refine zgo Try.func153 #[.agg #[.int .i64 a0_0, .int .i64 a0_1, .slice A0_2 l0_2.length c0_2, .int .i64 a0_3, .int .i64 a0_4], .int .i64 x6_1] ?_
       with_reducible refine (spec_l23High.calls a0_0 a0_1 _ _ l0_2 a0_3 a0_4 x6_1 t232 _ ?side1 ?side2 A8.out).mono ?_
       (case side1 => exact zC HR0_2 HB)
       (case side2 => exact HC0_2.out)
       rintro e w70 ⟨rfl, hb⟩
       refine ⟨_, rfl, ?_⟩
       replace HO_4 := zA (Kd.R_below (zr HO_4) hb)
       replace BK227 := zb BK227 hb
       replace HB := zE (zs1 HB GE227) hb
       (try clear hb)
       (try clear hb2)
       (try clear hk)
       (try clear hi)
       refine hK.out _ _ ⟨zc0 BK227, zc1 BK227, zc2 BK227, zc3 BK227, zc4 BK227⟩ (fun hHeld => ?_)
       clear hK K
       refine zN ?_
       refine zq HT_ 6 ?_
       refine zo HT_ 7 (fun K hK => ?_)
       refine box_step (by rfl) (N := 7) (by rfl) (cs := #[.int .i64 0, .int .i64 0]) (t := 110) zg ?_
       intro gb233 hg w71 hbox hb
       have BK233 := zA hbox
       have GW233 := zgs hg (zs1 HB GE227)
       have GE233 := zgs hg (zs1 HB GE227)
       have NB227_233 := zne hg BK227
       have NB233_227 := znf hg BK227
       replace HO_4 := zA (Kd.R_below (Kd.R_elderB (zr HO_4) gb233 (Nat.le_of_eq hg.symm)) hb)
       replace BK227 := zb BK227 hb
       replace HB := zE (zs1 HB GE227) hb
       clear hb hbox hg
       refine hK.out _ _ ⟨zc0 BK227, zc1 BK227, zc2 BK227, zc3 BK227, zc4 BK227⟩ (fun hHeld => ?_)
       clear hK K
       refine zN ?_
       exact norm_ (by simp only [putAll, Act.put, List.setIfInBounds_toArray, List.set_cons_zero, List.set_cons_succ]) (hCont (gb233) _ ⟨hHeld, (by (with_reducible repeat (first | apply Kd.R_alloc | apply Kd.R_drewN | apply Kd.R_drew)); exact Kd.R_mono HO_4.out (fun _ hk => hk.2)), (zh BK227), (zh BK233), GW233.out, GE233.out, NB227_233.out, NB233_227.out, (zs2 HB GE227 GE233)⟩)
      ·skip
       refine box_step (by rfl) (N := 7) (by rfl) (cs := #[.int .i64 0, .int .i64 0]) (t := 110) zg ?_
       intro gb233 hg w70 hbox hb
       have BK233 := zA hbox
       have GW233 := zgs hg (zs1 HB GE227)
       have GE233 := zgs hg (zs1 HB GE227)
       have NB227_233 := zne hg BK227
       have NB233_227 := znf hg BK227
       replace HO_4 := zA (Kd.R_below (Kd.R_elderB (zr HO_4) gb233 (Nat.le_of_eq hg.symm)) hb)
       replace BK227 := zb BK227 hb
       replace HB := zE (zs1 HB GE227) hb
       clear hb hbox hg
       refine hK.out _ _ ⟨zc0 BK227, zc1 BK227, zc2 BK227, zc3 BK227, zc4 BK227⟩ (fun hHeld => ?_)
       clear hK K
       refine zN ?_
       refine zo HT_ 5 (fun K hK => ?_)
       refine zgo Try.func153 #[.agg #[.int .i64 a0_0, .int .i64 a0_1, .slice A0_2 l0_2.length c0_2, .int .i64 a0_3, .int .i64 a0_4], .int .i64 x6_1] ?_
       with_reducible refine (spec_l23High.calls a0_0 a0_1 _ _ l0_2 a0_3 a0_4 x6_1 t232 _ ?side1 ?side2 A8.out).mono ?_
       (case side1 => exact zC HR0_2 HB)
       (case side2 => exact HC0_2.out)
       rintro e w71 ⟨rfl, hb⟩
       refine ⟨_, rfl, ?_⟩
       replace HO_4 := zA (Kd.R_below (zr HO_4) hb)
       replace BK227 := zb BK227 hb
       replace BK233 := zb BK233 hb
       replace HB := zE (zs2 HB GE227 GE233) hb
       (try clear hb)
       (try clear hb2)
       (try clear hk)
       (try clear hi)
       refine hK.out _ _ ⟨zc0 BK227, zc1 BK227, zc2 BK227, zc3 BK227, zc4 BK227⟩ (fun hHeld => ?_)
       clear hK K
       refine zN ?_
       refine zq HT_ 6 ?_
       exact norm_ (by simp only [putAll, Act.put, List.setIfInBounds_toArray, List.set_cons_zero, List.set_cons_succ]) (hCont (gb233) _ ⟨hHeld, (by (with_reducible repeat (first | apply Kd.R_alloc | apply Kd.R_drewN | apply Kd.R_drew)); exact Kd.R_mono HO_4.out (fun _ hk => hk.2)), (zh BK227), (zh BK233), GW233.out, GE233.out, NB227_233.out, NB233_227.out, (zs2 HB GE227 GE233)⟩)
     ·skip
      refine box_step (by rfl) (N := 7) (by rfl) (cs := #[.int .i64 0, .int .i64 0]) (t := 110) zg ?_
      intro gb233 hg w69 hbox hb
      have BK233 := zA hbox
      have GW233 := zgs hg (zs1 HB GE227)
      have GE233 := zgs hg (zs1 HB GE227)
      have NB227_233 := zne hg BK227
      have NB233_227 := znf hg BK227
      replace HO_4 := zA (Kd.R_below (Kd.R_elderB (zr HO_4) gb233 (Nat.le_of_eq hg.symm)) hb)
      replace BK227 := zb BK227 hb
      replace HB := zE (zs1 HB GE227) hb
      clear hb hbox hg
      refine hK.out _ _ ⟨zc0 BK227, zc1 BK227, zc2 BK227, zc3 BK227, zc4 BK227⟩ (fun hHeld => ?_)
      clear hK K
      refine zN ?_
      refine zo HT_ 2 (fun K hK => ?_)
      refine zgo Try.func152 #[.agg #[.int .i64 a0_0, .int .i64 a0_1, .slice A0_2 l0_2.length c0_2, .int .i64 a0_3, .int .i64 a0_4], .int .i64 x6_1] ?_
      with_reducible refine (spec_l23Low.calls a0_0 a0_1 _ _ l0_2 a0_3 a0_4 x6_1 t231 _ ?side1 ?side2 A7.out).mono ?_
      (case side1 => exact zC HR0_2 HB)
      (case side2 => exact HC0_2.out)
      rintro e w70 ⟨rfl, hb⟩
      refine ⟨_, rfl, ?_⟩
      replace HO_4 := zA (Kd.R_below (zr HO_4) hb)
      replace BK227 := zb BK227 hb
      replace BK233 := zb BK233 hb
      replace HB := zE (zs2 HB GE227 GE233) hb
      (try clear hb)
      (try clear hb2)
      (try clear hk)
      (try clear hi)
      refine hK.out _ _ ⟨zc0 BK227, zc1 BK227, zc2 BK227, zc3 BK227, zc4 BK227⟩ (fun hHeld => ?_)
      clear hK K
      refine zN ?_
      refine zo HT_ 5 (fun K hK => ?_)
      refine zgo Try.func153 #[.agg #[.int .i64 a0_0, .int .i64 a0_1, .slice A0_2 l0_2.length c0_2, .int .i64 a0_3, .int .i64 a0_4], .int .i64 x6_1] ?_
      with_reducible refine (spec_l23High.calls a0_0 a0_1 _ _ l0_2 a0_3 a0_4 x6_1 t232 _ ?side1 ?side2 A8.out).mono ?_
      (case side1 => exact zC HR0_2 HB)
      (case side2 => exact HC0_2.out)
      rintro e w71 ⟨rfl, hb⟩
      refine ⟨_, rfl, ?_⟩
      replace HO_4 := zA (Kd.R_below (zr HO_4) hb)
      replace BK227 := zb BK227 hb
      replace BK233 := zb BK233 hb
      replace HB := zE (zs2 HB GE227 GE233) hb
      (try clear hb)
      (try clear hb2)
      (try clear hk)
      (try clear hi)
      refine hK.out _ _ ⟨zc0 BK227, zc1 BK227, zc2 BK227, zc3 BK227, zc4 BK227⟩ (fun hHeld => ?_)
      clear hK K
      refine zN ?_
      refine zq HT_ 6 ?_
      exact norm_ (by simp only [putAll, Act.put, List.setIfInBounds_toArray, List.set_cons_zero, List.set_cons_succ]) (hCont (gb233) _ ⟨hHeld, (by (with_reducible repeat (first | apply Kd.R_alloc | apply Kd.R_drewN | apply Kd.R_drew)); exact Kd.R_mono HO_4.out (fun _ hk => hk.2)), (zh BK227), (zh BK233), GW233.out, GE233.out, NB227_233.out, NB233_227.out, (zs2 HB GE227 GE233)⟩)
    rintro gb233 w72 ⟨hS_, h0_, h1_, h2_, h3_, h4_, h5_, h6_, h7_⟩
    have BK233 : Aside0 (w72.heap[gb233]? = some (.cells #[.int .i64 0, .int .i64 0] 110 (0, 0))) := ⟨h2_⟩
    have GW233 : Aside0 (w.heap.size ≤ gb233) := ⟨h3_⟩
    have GE233 : Aside0 (w.heap.size ≤ gb233) := ⟨h4_⟩
    have NB227_233 : Aside0 (gb227 ≠ gb233) := ⟨h5_⟩
    have NB233_227 : Aside0 (gb233 ≠ gb227) := ⟨h6_⟩
    replace HO_4 : Aside0 (Kd.R k110 110 w72 w.heap.size (fun k_ => k_ ≠ gb233) u4 x4_1) := ⟨h0_⟩
    replace BK227 : Aside0 (w72.heap[gb227]? = some (.cells #[.int .i64 a0_0, .int .i64 a0_1, .slice A0_2 l0_2.length c0_2, .int .i64 a0_3, .int .i64 a0_4] 68 (0, 0))) := ⟨h1_⟩
    replace HB : Aside0 (Below w.heap.size w w72) := ⟨h7_⟩
    clear h0_ h1_ h2_ h3_ h4_ h5_ h6_ h7_
    have hHeld : w72.cell? ⟨gb227, 0, none⟩ = some (.int .i64 a0_0) ∧ w72.cell? ⟨gb227, 1, none⟩ = some (.int .i64 a0_1) ∧ w72.cell? ⟨gb227, 2, none⟩ = some (.slice A0_2 l0_2.length c0_2) ∧ w72.cell? ⟨gb227, 3, none⟩ = some (.int .i64 a0_3) ∧ w72.cell? ⟨gb227, 4, none⟩ = some (.int .i64 a0_4) := hS_
    refine norm_ (a' := ?_) ?_ ?_
    rotate_left
    ·simp only [putAll, Act.put, List.setIfInBounds_toArray, List.set_cons_zero, List.set_cons_succ]
     rfl
    refine zo HT_ 8 (fun K hK => ?_)
    have hs73 : w72.cell? ⟨gb233, 0, none⟩ = some (.int .i64 0) := zc0 BK233
    have hfs73 := zf BK233 0
    have hns73_0 := NB227_233.out
    have hms73_0 := NB233_227.out
    have hs74 : w72.cell? ⟨gb233, 1, none⟩ = some (.int .i64 0) := zc1 BK233
    have hfs74 := zf BK233 1
    have hns74_0 := NB227_233.out
    have hms74_0 := NB233_227.out
    refine skip_ (w1 := ?_) (by rfl) rfl ?_ ?_
    rotate_left
    ·go_simp
     rfl
    refine hK.out _ _ (zcf hHeld NB227_233) (fun hHeld => ?_)
    clear hK K
    refine done_ (done_of HT_.out (by kernel_rfl)) ?_
    have hnb75 := NB233_227.out
    have hnc75 := NB227_233.out
    obtain ⟨hcz76_0, hcz76_1⟩ := zd2 BK233
    obtain ⟨hfz76_0, hfz76_1⟩ := zn2 BK233
    try go_wp2_with (first | ((with_reducible refine gate_builtin (b := .append) (xs := #[.tmp 62, .tmp 64]) rfl ?_); at_builtin; refine Kd.R_append k110 (w0 := w) w.heap.size rfl (.tmp 62) (.tmp 64) 105 110 (.agg #[(.int .i64 0), (.int .i64 0)]) 16 rfl Try.underlying105 info110 rfl (by decide) (by omega) u4 x4_1 (⟨t231, t232⟩ : S110) [.int .i64 t231, .int .i64 t232] (fun k_ => k_ ≠ gb233) (fun _ => False) rfl (by first | (go_simp; done) | (go_simp; rfl)) ?aP (fun _ hk => hk.elim) ?aF ?aO ?aB ?aS ?aL ?_; (case aP => exact k110_mkM _ _ _ (⟨t231, t232⟩ : S110)); (case aB => exact (zs2 HB GE227 GE233)); (case aF => exact (fun k_ hk => Kd.freshB (g := gb233) (o := .cells #[.int .i64 t231, .int .i64 t232] 110 (0, 0)) (zpb BK233) k_ hk)); (case aO => exact (by (with_reducible repeat (first | apply Kd.R_alloc | apply Kd.R_drewN | apply Kd.R_drew)); exact Kd.R_mono (Kd.R_far (p := ⟨gb233, 1, none⟩) (Kd.R_far (p := ⟨gb233, 0, none⟩) (Kd.R_mono HO_4.out (fun k_ hk => (⟨hk, hk⟩ : _ ∧ k_ ≠ gb233))) (fun _ hk => hk.2) (.int .i64 t231)) (fun _ hk => hk.2) (.int .i64 t232)) (fun _ hk => hk.1))); (case aS => exact (below_size (zs2 HB GE227 GE233))); (case aL => have := LMc67.out; omega); intro v249 w77 ho hb hg hat; rw [← Ny248.out] at ho; have HO250 := zA (ho); replace BK227 := zA (blk_grown (g := gb227) (o := .cells #[.int .i64 a0_0, .int .i64 a0_1, .slice A0_2 l0_2.length c0_2, .int .i64 a0_3, .int .i64 a0_4] 68 (0, 0)) (zpf BK227 NB227_233) hg (Kd.R_ne HO_4.out BK227.out (by decide))); replace BK233 := zA (blk_grown (g := gb233) (o := .cells #[.int .i64 t231, .int .i64 t232] 110 (0, 0)) (zpb BK233) hg (Kd.R_away HO_4.out (fun _ hk => hk))); replace HB := zA (hb); clear HO_4; clear ho hb hg hat))
    go_roundg k1
    case measure => have := HK1.out; omega
    case rel => exact ⟨(y248), (wrap64 (x6_1 + 1)), zi, H', ⟨by have := HK1.out; omega⟩, ⟨by (with_reducible repeat (first | apply Kd.R_alloc | apply Kd.R_drewN | apply Kd.R_drew)); exact Kd.R_mono HO250.out (fun _ hk => trivial)⟩, ⟨zh BK227⟩, ⟨zs2 HB GE227 GE233⟩⟩
   rw [if_pos c9] at H
   have c9b0 : decide (0 < x6_1) = true := decide_eq_true c9
   clear c9
   obtain ⟨ji10, hji10⟩ : ∃ j_ : Int, (wrap64 (x6_1 - 1)) = j_ := ⟨_, rfl⟩
   first | rw [hji10] at H | simp only [hji10] at H
   (try rw [hji10] at A7)
   (try rw [hji10] at A8)
   have hji10w : (IntKind.i64.wrap (x6_1 - 1)) = ji10 := (i64_w _).trans hji10
   by_cases c11 : 0 ≤ (ji10)
   rotate_left
   ·rw [if_neg c11] at H
    exact absurd H (by simp)
   rw [if_pos c11] at H
   have c11b0 : decide (0 ≤ (ji10)) = true := decide_eq_true c11
   clear c11
   by_cases c12 : (ji10) < (x4_1.length : Int)
   rotate_left
   ·rw [if_neg c12] at H
    exact absurd H (by simp)
   rw [if_pos c12] at H
   have c12b0 : decide ((ji10) < (x4_1.length : Int)) = true := decide_eq_true c12
   clear c12
   replace H := zbd H; obtain ⟨t235, A13, H⟩ := H
   replace H := Option.bind_eq_some_iff.mp H
   obtain ⟨t237, A140, H⟩ := H
   replace H : ((spec_l21Min.f t232 (wrap64 (((rd_T110 x4_1 (ji10)).f1) + t237))).bind fun t238 => (if t235 > t238 then (some ((([] : List (S110))), false)) else (if x4_1.length < 8796093022208 then (spec_l24Spans.l0 k1 (x4_1 ++ [(⟨t235, t238⟩ : S110)]) (l0_2.length : Int) (wrap64 (x6_1 + 1)) a0_0 a0_1 l0_2 a0_3 a0_4) else (none)))) = some (r1, r2) := H
   have A14 := zA A140
   clear A140
   replace H := zbd H; obtain ⟨t238, A15, H⟩ := H
   by_cases c16 : t235 > t238
   ·rw [if_pos c16] at H
    have c16b0 : decide (t238 < t235) = true := decide_eq_true c16
    clear c16
    obtain ⟨y239, hy239⟩ : ∃ y_ : List (S110), y_ = (([] : List (S110))) := ⟨_, rfl⟩
    replace H : (some (y239, false)) = some (r1, r2) := by first | (rw [hy239]; with_reducible exact H) | (have H2_ := (Option.bind_some _ _).symm.trans H; rw [hy239]; with_reducible exact H2_) | (have H2_ := (Option.bind_some _ _).symm.trans H; with_reducible exact H2_) | with_reducible exact H | (rw [hy239]; exact H) | exact H
    have Ny239 := zA hy239
    clear hy239
    simp only [Option.some.injEq, Prod.mk.injEq] at H
    obtain ⟨rfl, rfl⟩ := H
    try go_wp2
    replace HO_4 := zA (Kd.R_drew HO_4.out)
    replace BK227 := zA (blk_drew BK227.out)
    replace HB := zA (below_drew1 HB.out)
    refine start_ (n := 9) (S := fun w' => w'.cell? ⟨gb227, 0, none⟩ = some (.int .i64 a0_0) ∧ w'.cell? ⟨gb227, 1, none⟩ = some (.int .i64 a0_1) ∧ w'.cell? ⟨gb227, 2, none⟩ = some (.slice A0_2 l0_2.length c0_2) ∧ w'.cell? ⟨gb227, 3, none⟩ = some (.int .i64 a0_3) ∧ w'.cell? ⟨gb227, 4, none⟩ = some (.int .i64 a0_4)) (ds := []) #[F,F,F,F,F,F,F,F,F] (by kernel_rfl) rfl rfl ⟨zc0 BK227, zc1 BK227, zc2 BK227, zc3 BK227, zc4 BK227⟩ (fun hHeld => ?_); refine with_tabW spec_l24Spans.tab6 spec_l24Spans.bits6 (fun HT_ HW_ => ?_)
    generalize wr.drew = w17 at HO_4 BK227 HB hHeld ⊢
    refine zq HT_ 1 ?_
    refine zq HT_ 4 ?_
    refine zk5 HT_ HW_ hHeld 0 ?_
    refine zk5 HT_ HW_ hHeld 3 ?_
    refine join_ (σ := Nat) 1 #[T,T,T,T,T,T,T,T,F] (fun s_ => [(20, .int .i64 t231), (23, .int .i64 t232), (7, .pointer (some ⟨s_, 0, none⟩)), (24, .agg #[.int .i64 t231, .int .i64 t232])]) (fun s_ w' => (w'.cell? ⟨gb227, 0, none⟩ = some (.int .i64 a0_0) ∧ w'.cell? ⟨gb227, 1, none⟩ = some (.int .i64 a0_1) ∧ w'.cell? ⟨gb227, 2, none⟩ = some (.slice A0_2 l0_2.length c0_2) ∧ w'.cell? ⟨gb227, 3, none⟩ = some (.int .i64 a0_3) ∧ w'.cell? ⟨gb227, 4, none⟩ = some (.int .i64 a0_4)) ∧ (Kd.R k110 110 w' w.heap.size (fun k_ => k_ ≠ s_) u4 x4_1) ∧ (w'.heap[gb227]? = some (.cells #[.int .i64 a0_0, .int .i64 a0_1, .slice A0_2 l0_2.length c0_2, .int .i64 a0_3, .int .i64 a0_4] 68 (0, 0))) ∧ (w'.heap[s_]? = some (.cells #[.int .i64 0, .int .i64 0] 110 (0, 0))) ∧ (w.heap.size ≤ s_) ∧ (w.heap.size ≤ s_) ∧ (gb227 ≠ s_) ∧ (s_ ≠ gb227) ∧ (Below w.heap.size w w')) ?_ ?_
    rotate_left
    ·intro hCont
     refine two_ (i := 2) (j := 7) (Ni := some 20) (Nj := some 7) #[T,T,T,T,T,F,F,F,F] #[T,T,F,T,T,F,F,T,F] rfl rfl rfl rfl (two_of HT_.out (by kernel_rfl)) (by decide) (by decide) (fun K hK => ?_) (fun K hK => ?_)
     ·skip
      refine zgo Try.func152 #[.agg #[.int .i64 a0_0, .int .i64 a0_1, .slice A0_2 l0_2.length c0_2, .int .i64 a0_3, .int .i64 a0_4], .int .i64 x6_1] ?_
      with_reducible refine (spec_l23Low.calls a0_0 a0_1 _ _ l0_2 a0_3 a0_4 x6_1 t231 _ ?side1 ?side2 A7.out).mono ?_
      (case side1 => exact zC HR0_2 HB)
      (case side2 => exact HC0_2.out)
      rintro e w18 ⟨rfl, hb⟩
      refine ⟨_, rfl, ?_⟩
      replace HO_4 := zA (Kd.R_below (zr HO_4) hb)
      replace BK227 := zb BK227 hb
      replace HB := zE (zs1 HB GE227) hb
      (try clear hb)
      (try clear hb2)
      (try clear hk)
      (try clear hi)
      refine hK.out _ _ ⟨zc0 BK227, zc1 BK227, zc2 BK227, zc3 BK227, zc4 BK227⟩ (fun hHeld => ?_)
      clear hK K
      refine zN ?_
      refine two_ (i := 5) (j := 7) (Ni := some 23) (Nj := some 7) #[T,T,T,T,T,T,F,F,F] #[T,T,T,T,T,F,F,T,F] rfl rfl rfl rfl (two_of HT_.out (by kernel_rfl)) (by decide) (by decide) (fun K hK => ?_) (fun K hK => ?_)
      ·skip
       refine zgo Try.func153 #[.agg #[.int .i64 a0_0, .int .i64 a0_1, .slice A0_2 l0_2.length c0_2, .int .i64 a0_3, .int .i64 a0_4], .int .i64 x6_1] ?_
       with_reducible refine (spec_l23High.calls a0_0 a0_1 _ _ l0_2 a0_3 a0_4 x6_1 t232 _ ?side1 ?side2 A8.out).mono ?_
       (case side1 => exact zC HR0_2 HB)
       (case side2 => exact HC0_2.out)
       rintro e w19 ⟨rfl, hb⟩
       refine ⟨_, rfl, ?_⟩
       replace HO_4 := zA (Kd.R_below (zr HO_4) hb)
       replace BK227 := zb BK227 hb
       replace HB := zE (zs1 HB GE227) hb
       (try clear hb)
       (try clear hb2)
       (try clear hk)
       (try clear hi)
       refine hK.out _ _ ⟨zc0 BK227, zc1 BK227, zc2 BK227, zc3 BK227, zc4 BK227⟩ (fun hHeld => ?_)
       clear hK K
       refine zN ?_
       refine zq HT_ 6 ?_
       refine zo HT_ 7 (fun K hK => ?_)
       refine box_step (by rfl) (N := 7) (by rfl) (cs := #[.int .i64 0, .int .i64 0]) (t := 110) zg ?_
       intro gb233 hg w20 hbox hb
       have BK233 := zA hbox
       have GW233 := zgs hg (zs1 HB GE227)
       have GE233 := zgs hg (zs1 HB GE227)
       have NB227_233 := zne hg BK227
       have NB233_227 := znf hg BK227
       replace HO_4 := zA (Kd.R_below (Kd.R_elderB (zr HO_4) gb233 (Nat.le_of_eq hg.symm)) hb)
       replace BK227 := zb BK227 hb
       replace HB := zE (zs1 HB GE227) hb
       clear hb hbox hg
       refine hK.out _ _ ⟨zc0 BK227, zc1 BK227, zc2 BK227, zc3 BK227, zc4 BK227⟩ (fun hHeld => ?_)
       clear hK K
       refine zN ?_
       exact norm_ (by simp only [putAll, Act.put, List.setIfInBounds_toArray, List.set_cons_zero, List.set_cons_succ]) (hCont (gb233) _ ⟨hHeld, (by (with_reducible repeat (first | apply Kd.R_alloc | apply Kd.R_drewN | apply Kd.R_drew)); exact Kd.R_mono HO_4.out (fun _ hk => hk.2)), (zh BK227), (zh BK233), GW233.out, GE233.out, NB227_233.out, NB233_227.out, (zs2 HB GE227 GE233)⟩)
      ·skip
       refine box_step (by rfl) (N := 7) (by rfl) (cs := #[.int .i64 0, .int .i64 0]) (t := 110) zg ?_
       intro gb233 hg w19 hbox hb
       have BK233 := zA hbox
       have GW233 := zgs hg (zs1 HB GE227)
       have GE233 := zgs hg (zs1 HB GE227)
       have NB227_233 := zne hg BK227
       have NB233_227 := znf hg BK227
       replace HO_4 := zA (Kd.R_below (Kd.R_elderB (zr HO_4) gb233 (Nat.le_of_eq hg.symm)) hb)
       replace BK227 := zb BK227 hb
       replace HB := zE (zs1 HB GE227) hb
       clear hb hbox hg
       refine hK.out _ _ ⟨zc0 BK227, zc1 BK227, zc2 BK227, zc3 BK227, zc4 BK227⟩ (fun hHeld => ?_)
       clear hK K
       refine zN ?_
       refine zo HT_ 5 (fun K hK => ?_)
       refine zgo Try.func153 #[.agg #[.int .i64 a0_0, .int .i64 a0_1, .slice A0_2 l0_2.length c0_2, .int .i64 a0_3, .int .i64 a0_4], .int .i64 x6_1] ?_
       with_reducible refine (spec_l23High.calls a0_0 a0_1 _ _ l0_2 a0_3 a0_4 x6_1 t232 _ ?side1 ?side2 A8.out).mono ?_
       (case side1 => exact zC HR0_2 HB)
       (case side2 => exact HC0_2.out)
       rintro e w20 ⟨rfl, hb⟩
       refine ⟨_, rfl, ?_⟩
       replace HO_4 := zA (Kd.R_below (zr HO_4) hb)
       replace BK227 := zb BK227 hb
       replace BK233 := zb BK233 hb
       replace HB := zE (zs2 HB GE227 GE233) hb
       (try clear hb)
       (try clear hb2)
       (try clear hk)
       (try clear hi)
       refine hK.out _ _ ⟨zc0 BK227, zc1 BK227, zc2 BK227, zc3 BK227, zc4 BK227⟩ (fun hHeld => ?_)
       clear hK K
       refine zN ?_
       refine zq HT_ 6 ?_
       exact norm_ (by simp only [putAll, Act.put, List.setIfInBounds_toArray, List.set_cons_zero, List.set_cons_succ]) (hCont (gb233) _ ⟨hHeld, (by (with_reducible repeat (first | apply Kd.R_alloc | apply Kd.R_drewN | apply Kd.R_drew)); exact Kd.R_mono HO_4.out (fun _ hk => hk.2)), (zh BK227), (zh BK233), GW233.out, GE233.out, NB227_233.out, NB233_227.out, (zs2 HB GE227 GE233)⟩)
     ·skip
      refine box_step (by rfl) (N := 7) (by rfl) (cs := #[.int .i64 0, .int .i64 0]) (t := 110) zg ?_
      intro gb233 hg w18 hbox hb
      have BK233 := zA hbox
      have GW233 := zgs hg (zs1 HB GE227)
      have GE233 := zgs hg (zs1 HB GE227)
      have NB227_233 := zne hg BK227
      have NB233_227 := znf hg BK227
      replace HO_4 := zA (Kd.R_below (Kd.R_elderB (zr HO_4) gb233 (Nat.le_of_eq hg.symm)) hb)
      replace BK227 := zb BK227 hb
      replace HB := zE (zs1 HB GE227) hb
      clear hb hbox hg
      refine hK.out _ _ ⟨zc0 BK227, zc1 BK227, zc2 BK227, zc3 BK227, zc4 BK227⟩ (fun hHeld => ?_)
      clear hK K
      refine zN ?_
      refine zo HT_ 2 (fun K hK => ?_)
      refine zgo Try.func152 #[.agg #[.int .i64 a0_0, .int .i64 a0_1, .slice A0_2 l0_2.length c0_2, .int .i64 a0_3, .int .i64 a0_4], .int .i64 x6_1] ?_
      with_reducible refine (spec_l23Low.calls a0_0 a0_1 _ _ l0_2 a0_3 a0_4 x6_1 t231 _ ?side1 ?side2 A7.out).mono ?_
      (case side1 => exact zC HR0_2 HB)
      (case side2 => exact HC0_2.out)
      rintro e w19 ⟨rfl, hb⟩
      refine ⟨_, rfl, ?_⟩
      replace HO_4 := zA (Kd.R_below (zr HO_4) hb)
      replace BK227 := zb BK227 hb
      replace BK233 := zb BK233 hb
      replace HB := zE (zs2 HB GE227 GE233) hb
      (try clear hb)
      (try clear hb2)
      (try clear hk)
      (try clear hi)
      refine hK.out _ _ ⟨zc0 BK227, zc1 BK227, zc2 BK227, zc3 BK227, zc4 BK227⟩ (fun hHeld => ?_)
      clear hK K
      refine zN ?_
      refine zo HT_ 5 (fun K hK => ?_)
      refine zgo Try.func153 #[.agg #[.int .i64 a0_0, .int .i64 a0_1, .slice A0_2 l0_2.length c0_2, .int .i64 a0_3, .int .i64 a0_4], .int .i64 x6_1] ?_
      with_reducible refine (spec_l23High.calls a0_0 a0_1 _ _ l0_2 a0_3 a0_4 x6_1 t232 _ ?side1 ?side2 A8.out).mono ?_
      (case side1 => exact zC HR0_2 HB)
      (case side2 => exact HC0_2.out)
      rintro e w20 ⟨rfl, hb⟩
      refine ⟨_, rfl, ?_⟩
      replace HO_4 := zA (Kd.R_below (zr HO_4) hb)
      replace BK227 := zb BK227 hb
      replace BK233 := zb BK233 hb
      replace HB := zE (zs2 HB GE227 GE233) hb
      (try clear hb)
      (try clear hb2)
      (try clear hk)
      (try clear hi)
      refine hK.out _ _ ⟨zc0 BK227, zc1 BK227, zc2 BK227, zc3 BK227, zc4 BK227⟩ (fun hHeld => ?_)
      clear hK K
      refine zN ?_
      refine zq HT_ 6 ?_
      exact norm_ (by simp only [putAll, Act.put, List.setIfInBounds_toArray, List.set_cons_zero, List.set_cons_succ]) (hCont (gb233) _ ⟨hHeld, (by (with_reducible repeat (first | apply Kd.R_alloc | apply Kd.R_drewN | apply Kd.R_drew)); exact Kd.R_mono HO_4.out (fun _ hk => hk.2)), (zh BK227), (zh BK233), GW233.out, GE233.out, NB227_233.out, NB233_227.out, (zs2 HB GE227 GE233)⟩)
    rintro gb233 w21 ⟨hS_, h0_, h1_, h2_, h3_, h4_, h5_, h6_, h7_⟩
    have BK233 : Aside0 (w21.heap[gb233]? = some (.cells #[.int .i64 0, .int .i64 0] 110 (0, 0))) := ⟨h2_⟩
    have GW233 : Aside0 (w.heap.size ≤ gb233) := ⟨h3_⟩
    have GE233 : Aside0 (w.heap.size ≤ gb233) := ⟨h4_⟩
    have NB227_233 : Aside0 (gb227 ≠ gb233) := ⟨h5_⟩
    have NB233_227 : Aside0 (gb233 ≠ gb227) := ⟨h6_⟩
    replace HO_4 : Aside0 (Kd.R k110 110 w21 w.heap.size (fun k_ => k_ ≠ gb233) u4 x4_1) := ⟨h0_⟩
    replace BK227 : Aside0 (w21.heap[gb227]? = some (.cells #[.int .i64 a0_0, .int .i64 a0_1, .slice A0_2 l0_2.length c0_2, .int .i64 a0_3, .int .i64 a0_4] 68 (0, 0))) := ⟨h1_⟩
    replace HB : Aside0 (Below w.heap.size w w21) := ⟨h7_⟩
    clear h0_ h1_ h2_ h3_ h4_ h5_ h6_ h7_
    have hHeld : w21.cell? ⟨gb227, 0, none⟩ = some (.int .i64 a0_0) ∧ w21.cell? ⟨gb227, 1, none⟩ = some (.int .i64 a0_1) ∧ w21.cell? ⟨gb227, 2, none⟩ = some (.slice A0_2 l0_2.length c0_2) ∧ w21.cell? ⟨gb227, 3, none⟩ = some (.int .i64 a0_3) ∧ w21.cell? ⟨gb227, 4, none⟩ = some (.int .i64 a0_4) := hS_
    refine norm_ (a' := ?_) ?_ ?_
    rotate_left
    ·simp only [putAll, Act.put, List.setIfInBounds_toArray, List.set_cons_zero, List.set_cons_succ]
     rfl
    refine zo HT_ 8 (fun K hK => ?_)
    have hs22 : w21.cell? ⟨gb233, 0, none⟩ = some (.int .i64 0) := zc0 BK233
    have hfs22 := zf BK233 0
    have hns22_0 := NB227_233.out
    have hms22_0 := NB233_227.out
    have hs23 : w21.cell? ⟨gb233, 1, none⟩ = some (.int .i64 0) := zc1 BK233
    have hfs23 := zf BK233 1
    have hns23_0 := NB227_233.out
    have hms23_0 := NB233_227.out
    refine skip_ (w1 := ?_) (by rfl) rfl ?_ ?_
    rotate_left
    ·go_simp
     rfl
    refine hK.out _ _ (zcf hHeld NB227_233) (fun hHeld => ?_)
    clear hK K
    refine done_ (done_of HT_.out (by kernel_rfl)) ?_
    try go_wp2
    obtain ⟨w24, e_⟩ : ∃ x, x = ((w21.setCell ⟨gb233, 0, none⟩ (.int .i64 t231)).setCell ⟨gb233, 1, none⟩ (.int .i64 t232)) := ⟨_, rfl⟩
    have n0_ : Aside0 (Kd.R k110 110 w24 w.heap.size (fun k_ => k_ ≠ gb233) u4 x4_1) := by rw [e_]; exact ⟨by (with_reducible repeat (first | apply Kd.R_alloc | apply Kd.R_drewN | apply Kd.R_drew)); exact Kd.R_mono (Kd.R_far (p := ⟨gb233, 1, none⟩) (Kd.R_far (p := ⟨gb233, 0, none⟩) (Kd.R_mono HO_4.out (fun k_ hk => (⟨hk, hk⟩ : _ ∧ k_ ≠ gb233))) (fun _ hk => hk.2) (.int .i64 t231)) (fun _ hk => hk.2) (.int .i64 t232)) (fun _ hk => hk.1)⟩
    have n1_ : Aside0 (w24.heap[gb227]? = some (.cells #[.int .i64 a0_0, .int .i64 a0_1, .slice A0_2 l0_2.length c0_2, .int .i64 a0_3, .int .i64 a0_4] 68 (0, 0))) := by rw [e_]; exact ⟨zpf BK227 NB227_233⟩
    have n2_ : Aside0 (w24.heap[gb233]? = some (.cells #[.int .i64 t231, .int .i64 t232] 110 (0, 0))) := by rw [e_]; exact ⟨zpb BK233⟩
    have n3_ : Aside0 (Below w.heap.size w w24) := by rw [e_]; exact ⟨zs2 HB GE227 GE233⟩
    (try clear HO_4)
    (try clear BK227)
    (try clear BK233)
    (try clear HB)
    rw [← e_]; clear e_
    have HO_4 := n0_
    have BK227 := n1_
    have BK233 := n2_
    have HB := n3_
    clear n0_ n1_ n2_ n3_
    replace HO_4 := zA (Kd.R_drew HO_4.out)
    replace BK227 := zA (blk_drew BK227.out)
    replace BK233 := zA (blk_drew BK233.out)
    replace HB := zA (below_drew1 HB.out)
    obtain ⟨Ao26, co26, eo26⟩ := Kd.R_slice HO_4.out
    (first | subst eo26 | (injection eo26 with f1_ f2_ f3_; have f4_ := f1_.symm; have f5_ := f3_.symm; clear f1_ f2_ f3_; subst f4_; subst f5_))
    have p234 : 0 ≤ ((ji10) : Int) := za
    have q234 : (ji10) < (x4_1.length : Int) := za
    obtain ⟨ad234, e234, hx234_0, hx234_1⟩ := at_T110 (Kd.R_reads' HO_4.out).2.2 (ji10) p234 q234
    cases e234
    replace p234 := eq_true p234
    replace q234 := eq_true q234
    refine start_ (n := 15) (S := fun w' => w'.cell? ⟨gb233, 0, none⟩ = some (.int .i64 t231) ∧ w'.cell? ⟨gb233, 1, none⟩ = some (.int .i64 t232) ∧ w'.cell? ⟨gb227, 0, none⟩ = some (.int .i64 a0_0) ∧ w'.cell? ⟨gb227, 1, none⟩ = some (.int .i64 a0_1) ∧ w'.cell? ⟨gb227, 2, none⟩ = some (.slice A0_2 l0_2.length c0_2) ∧ w'.cell? ⟨gb227, 3, none⟩ = some (.int .i64 a0_3) ∧ w'.cell? ⟨gb227, 4, none⟩ = some (.int .i64 a0_4) ∧ w'.cell? (ad234.add (((ji10)).toNat * 2)) = some (.int .i64 ((rd_T110 x4_1 (ji10)).f0)) ∧ w'.cell? ⟨(ad234.add (((ji10)).toNat * 2)).block, (ad234.add (((ji10)).toNat * 2)).off + 1, none⟩ = some (.int .i64 ((rd_T110 x4_1 (ji10)).f1))) (ds := [14]) #[F,F,F,F,F,F,F,F,F,F,F,F,F,F,F] (by kernel_rfl) rfl rfl ⟨zc0 BK233, zc1 BK233, zc0 BK227, zc1 BK227, zc2 BK227, zc3 BK227, zc4 BK227, hx234_0, hx234_1⟩ (fun hHeld => ?_); refine with_tabW spec_l24Spans.tab8 spec_l24Spans.bits8 (fun HT_ HW_ => ?_)
    generalize w24.drew = w25 at HO_4 BK227 BK233 HB hx234_0 hx234_1 hHeld ⊢
    refine zq HT_ 0 ?_
    refine zq HT_ 2 ?_
    refine zq HT_ 3 ?_
    refine zq HT_ 4 ?_
    refine zq HT_ 5 ?_
    refine zq HT_ 6 ?_
    refine zq HT_ 8 ?_
    refine zq HT_ 9 ?_
    refine zk9 HT_ HW_ hHeld 1 ?_
    refine zk9 HT_ HW_ hHeld 7 ?_
    refine zk9 HT_ HW_ hHeld 10 ?_
    refine zq HT_ 11 ?_
    refine zo HT_ 12 (fun K hK => ?_)
    refine goes_ Try.func130 (by kernel_rfl) rfl #[.int .i64 t231, .int .i64 (wrap64 (((rd_T110 x4_1 (ji10)).f0) + a0_0))] (by rfl) rfl rfl (by (try simp only [List.map_toArray, List.map_cons, List.map_nil]); first | done | (simp only [hji10]; rfl) | rfl | (simp only [List.length_drop, List.length_take]; rfl)) ?_
    with_reducible refine (spec_l21Max.calls t231 (wrap64 (((rd_T110 x4_1 (ji10)).f0) + a0_0)) t235 _ A13.out).mono ?_
    rintro e w' ⟨rfl, ⟨nd, rfl⟩⟩
    refine ⟨_, rfl, ?_⟩
    refine hK.out _ _ ⟨zc0 BK233, zc1 BK233, zc0 BK227, zc1 BK227, zc2 BK227, zc3 BK227, zc4 BK227, hHeld.2.2.2.2.2.2.2⟩ (fun hHeld => ?_)
    clear hK K
    refine zN ?_
    refine zq HT_ 13 ?_
    refine zO HT_ 14 (fun K hK => ?_)
    have hs27 : w25.cell? ⟨gb233, 0, none⟩ = some (.int .i64 t231) := zc0 BK233
    have hfs27 := zf BK233 0
    have hns27_0 := NB227_233.out
    have hms27_0 := NB233_227.out
    refine skip_ (w1 := ?_) (by rfl) rfl ?_ ?_
    rotate_left
    ·go_simp
     rfl
    refine hK.out _ _ ?_
    clear hK K
    refine done_ (done_of HT_.out (by kernel_rfl)) ?_
    try go_wp2
    have n0_ : Aside0 (Kd.R k110 110 (w25.setCell ⟨gb233, 0, none⟩ (.int .i64 t235)) w.heap.size (fun k_ => k_ ≠ gb233) (.slice (some ad234) x4_1.length co26) x4_1) := ⟨by (with_reducible repeat (first | apply Kd.R_alloc | apply Kd.R_drewN | apply Kd.R_drew)); exact Kd.R_mono (Kd.R_far (p := ⟨gb233, 0, none⟩) (Kd.R_mono HO_4.out (fun k_ hk => (⟨hk, hk⟩ : _ ∧ k_ ≠ gb233))) (fun _ hk => hk.2) (.int .i64 t235)) (fun _ hk => hk.1)⟩
    have n1_ : Aside0 ((w25.setCell ⟨gb233, 0, none⟩ (.int .i64 t235)).heap[gb227]? = some (.cells #[.int .i64 a0_0, .int .i64 a0_1, .slice A0_2 l0_2.length c0_2, .int .i64 a0_3, .int .i64 a0_4] 68 (0, 0))) := ⟨zpf BK227 NB227_233⟩
    have n2_ : Aside0 ((w25.setCell ⟨gb233, 0, none⟩ (.int .i64 t235)).heap[gb233]? = some (.cells #[.int .i64 t235, .int .i64 t232] 110 (0, 0))) := ⟨zpb BK233⟩
    have n3_ : Aside0 (Below w.heap.size w (w25.setCell ⟨gb233, 0, none⟩ (.int .i64 t235))) := ⟨zs2 HB GE227 GE233⟩
    (try clear HO_4)
    (try clear BK227)
    (try clear BK233)
    (try clear HB)
    generalize (w25.setCell ⟨gb233, 0, none⟩ (.int .i64 t235)) = w28 at n0_ n1_ n2_ n3_ ⊢
    have HO_4 := n0_
    have BK227 := n1_
    have BK233 := n2_
    have HB := n3_
    clear n0_ n1_ n2_ n3_
    (try (rw [drewN_self w28]; generalize hq_ : World.drewN w28 _ = w28; replace HO_4 : Aside0 (Kd.R k110 110 w28 w.heap.size (fun k_ => k_ ≠ gb233) (.slice (some ad234) x4_1.length co26) x4_1) := ⟨by rw [← hq_]; exact (zr HO_4)⟩; replace BK227 : Aside0 (w28.heap[gb227]? = some (.cells #[.int .i64 a0_0, .int .i64 a0_1, .slice A0_2 l0_2.length c0_2, .int .i64 a0_3, .int .i64 a0_4] 68 (0, 0))) := ⟨by rw [← hq_]; exact (zh BK227)⟩; replace BK233 : Aside0 (w28.heap[gb233]? = some (.cells #[.int .i64 t235, .int .i64 t232] 110 (0, 0))) := ⟨by rw [← hq_]; exact (zh BK233)⟩; replace HB : Aside0 (Below w.heap.size w w28) := ⟨by rw [← hq_]; exact (zs2 HB GE227 GE233)⟩; clear hq_))
    replace HO_4 := zA (Kd.R_drew HO_4.out)
    replace BK227 := zA (blk_drew BK227.out)
    replace BK233 := zA (blk_drew BK233.out)
    replace HB := zA (below_drew1 HB.out)
    have p236 : 0 ≤ ((ji10) : Int) := za
    have q236 : (ji10) < (x4_1.length : Int) := za
    obtain ⟨ad236, e236, hx236_0, hx236_1⟩ := at_T110 (Kd.R_reads' HO_4.out).2.2 (ji10) p236 q236
    obtain rfl : ad234 = ad236 := (by injection e236)
    replace p236 := eq_true p236
    replace q236 := eq_true q236
    refine start_ (n := 16) (S := fun w' => w'.cell? ⟨gb233, 0, none⟩ = some (.int .i64 t235) ∧ w'.cell? ⟨gb233, 1, none⟩ = some (.int .i64 t232) ∧ w'.cell? ⟨gb227, 0, none⟩ = some (.int .i64 a0_0) ∧ w'.cell? ⟨gb227, 1, none⟩ = some (.int .i64 a0_1) ∧ w'.cell? ⟨gb227, 2, none⟩ = some (.slice A0_2 l0_2.length c0_2) ∧ w'.cell? ⟨gb227, 3, none⟩ = some (.int .i64 a0_3) ∧ w'.cell? ⟨gb227, 4, none⟩ = some (.int .i64 a0_4) ∧ w'.cell? (ad234.add (((ji10)).toNat * 2)) = some (.int .i64 ((rd_T110 x4_1 (ji10)).f0)) ∧ w'.cell? ⟨(ad234.add (((ji10)).toNat * 2)).block, (ad234.add (((ji10)).toNat * 2)).off + 1, none⟩ = some (.int .i64 ((rd_T110 x4_1 (ji10)).f1))) (ds := [15]) #[F,F,F,F,F,F,F,F,F,F,F,F,F,F,F,F] (by kernel_rfl) rfl rfl ⟨zc0 BK233, zc1 BK233, zc0 BK227, zc1 BK227, zc2 BK227, zc3 BK227, zc4 BK227, hx236_0, hx236_1⟩ (fun hHeld => ?_); refine with_tabW spec_l24Spans.tab9 spec_l24Spans.bits9 (fun HT_ HW_ => ?_)
    generalize w28.drew = w29 at HO_4 BK227 BK233 HB hx236_0 hx236_1 hHeld ⊢
    refine zq HT_ 0 ?_
    refine zq HT_ 2 ?_
    refine zq HT_ 3 ?_
    refine zq HT_ 4 ?_
    refine zq HT_ 5 ?_
    refine zq HT_ 6 ?_
    refine zq HT_ 9 ?_
    refine zq HT_ 10 ?_
    refine zk9 HT_ HW_ hHeld 1 ?_
    refine zk9 HT_ HW_ hHeld 7 ?_
    refine zk9 HT_ HW_ hHeld 8 ?_
    refine zo HT_ 11 (fun K hK => ?_)
    refine goes_ Try.func154 (by kernel_rfl) rfl #[.agg #[.int .i64 a0_0, .int .i64 a0_1, .slice A0_2 l0_2.length c0_2, .int .i64 a0_3, .int .i64 a0_4], .int .i64 ji10] (by rfl) rfl rfl (by (try simp only [List.map_toArray, List.map_cons, List.map_nil]); first | done | (simp only [hji10]; rfl) | rfl | (simp only [List.length_drop, List.length_take]; rfl)) ?_
    with_reducible refine (spec_l23Most.calls a0_0 a0_1 _ _ l0_2 a0_3 a0_4 ji10 t237 _ ?side1 ?side2 A14.out).mono ?_
    (case side1 => exact zC HR0_2 HB)
    (case side2 => exact HC0_2.out)
    rintro e w30 ⟨rfl, hb⟩
    have HS7_ := (hb.cell (World.block_lt_of_cell? _ _ (hHeld.2.2.2.2.2.2.2.1))).trans (hHeld.2.2.2.2.2.2.2.1)
    have HS8_ := (hb.cell (World.block_lt_of_cell? _ _ (hHeld.2.2.2.2.2.2.2.2))).trans (hHeld.2.2.2.2.2.2.2.2)
    refine ⟨_, rfl, ?_⟩
    replace HO_4 := zA (Kd.R_below (zr HO_4) hb)
    replace BK227 := zb BK227 hb
    replace BK233 := zb BK233 hb
    replace HB := zE (zs2 HB GE227 GE233) hb
    (try clear hb)
    (try clear hb2)
    (try clear hk)
    (try clear hi)
    refine hK.out _ _ ⟨zc0 BK233, zc1 BK233, zc0 BK227, zc1 BK227, zc2 BK227, zc3 BK227, zc4 BK227, HS7_, HS8_⟩ (fun hHeld => ?_)
    clear hK K
    refine zN ?_
    refine zq HT_ 12 ?_
    refine zo HT_ 13 (fun K hK => ?_)
    refine goes_ Try.func98 (by kernel_rfl) rfl #[.int .i64 t232, .int .i64 (wrap64 (((rd_T110 x4_1 (ji10)).f1) + t237))] (by rfl) rfl rfl (by (try simp only [List.map_toArray, List.map_cons, List.map_nil]); first | done | (simp only [hji10]; rfl) | rfl | (simp only [List.length_drop, List.length_take]; rfl)) ?_
    with_reducible refine (spec_l21Min.calls t232 (wrap64 (((rd_T110 x4_1 (ji10)).f1) + t237)) t238 _ A15.out).mono ?_
    rintro e w' ⟨rfl, ⟨nd, rfl⟩⟩
    refine ⟨_, rfl, ?_⟩
    refine hK.out _ _ ⟨zc0 BK233, zc1 BK233, zc0 BK227, zc1 BK227, zc2 BK227, zc3 BK227, zc4 BK227, hHeld.2.2.2.2.2.2.2⟩ (fun hHeld => ?_)
    clear hK K
    refine zN ?_
    refine zq HT_ 14 ?_
    refine zO HT_ 15 (fun K hK => ?_)
    have hs31 : w30.cell? ⟨gb233, 1, none⟩ = some (.int .i64 t232) := zc1 BK233
    have hfs31 := zf BK233 1
    have hns31_0 := NB227_233.out
    have hms31_0 := NB233_227.out
    refine skip_ (w1 := ?_) (by rfl) rfl ?_ ?_
    rotate_left
    ·go_simp
     rfl
    refine hK.out _ _ ?_
    clear hK K
    refine done_ (done_of HT_.out (by kernel_rfl)) ?_
    have hnb32 := NB233_227.out
    have hnc32 := NB227_233.out
    obtain ⟨hcz33_0, hcz33_1⟩ := zd2 BK233
    obtain ⟨hfz33_0, hfz33_1⟩ := zn2 BK233
    try go_wp2_with (first | ((with_reducible refine gate_dst (N := 61) rfl ?_); refine Kd.R_lit k110 _ 110 ?hg (N := 61) ?hd (xs := ([] : List (S110))) (inner := []) (ok := fun _ => True) (okp := fun _ => True) ?hr ?hp (fun _ hk => hk) trivial (Below.refl _ _) (Nat.le_refl _) (by simp) ?_; (case hd => rfl); (case hg => rfl); (case hr => first | (go_simp; done) | (go_simp; rfl)); (case hp => exact (Reps.none _ _)); intro v240 w34 ho35 hb hg_ hnew_; clear hg_ hnew_; (first | rw [← Ny239.out] at ho35 | (simp only [Int.reduceToNat] at ho35; rw [← Ny239.out] at ho35)); have HO241 := zA (Kd.R_lower (Kd.R_newB (Kd.R_new' ho35 (Kd.R_lt (by (with_reducible repeat (first | apply Kd.R_alloc | apply Kd.R_drewN | apply Kd.R_drew)); exact (Kd.R_mono (Kd.R_far (p := ⟨gb233, 1, none⟩) (Kd.R_mono HO_4.out (fun k_ hk => (⟨hk, hk⟩ : _ ∧ k_ ≠ gb233))) (fun _ hk => hk.2) (.int .i64 t238)) (fun _ h_ => h_.1))))) (g := gb233) (o := .cells #[.int .i64 t235, .int .i64 t238] 110 (0, 0)) (zpb BK233)) (below_size (zs2 HB GE227 GE233))); replace HO_4 := zA (Kd.R_elder' (by (with_reducible repeat (first | apply Kd.R_alloc | apply Kd.R_drewN | apply Kd.R_drew)); exact (Kd.R_mono (Kd.R_far (p := ⟨gb233, 1, none⟩) (Kd.R_mono HO_4.out (fun k_ hk => (⟨hk, hk⟩ : _ ∧ k_ ≠ gb233))) (fun _ hk => hk.2) (.int .i64 t238)) (fun _ h_ => h_.1))) (Kd.R_base ho35) hb); replace BK227 := zA (blk_below (g := gb227) (o := .cells #[.int .i64 a0_0, .int .i64 a0_1, .slice A0_2 l0_2.length c0_2, .int .i64 a0_3, .int .i64 a0_4] 68 (0, 0)) (zpf BK227 NB227_233) hb); replace BK233 := zA (blk_below (g := gb233) (o := .cells #[.int .i64 t235, .int .i64 t238] 110 (0, 0)) (zpb BK233) hb); replace HB := zE (zs2 HB GE227 GE233) hb; clear hb ho35))
    go_ret2
    exact ⟨_, by first | rfl | (simp [errW_none, errW_some] <;> rfl) | (simp only [← hji10]; first | rfl | (simp [errW_none, errW_some] <;> rfl)) | (simp [*, errW_none, errW_some] <;> rfl), by (with_reducible repeat (first | apply Kd.R_alloc | apply Kd.R_drewN | apply Kd.R_drew)); exact Kd.R_mono HO241.out (fun _ hk => trivial), zs2 HB GE227 GE233⟩
   rw [if_neg c16] at H
   have c16b0 : decide (t238 < t235) = false := decide_eq_false c16
   clear c16
   by_cases c36 : x4_1.length < 8796093022208
   rotate_left
   ·rw [if_neg c36] at H
    exact absurd H (by simp)
   rw [if_pos c36] at H
   have LMc36 := zA c36
   clear c36
   obtain ⟨y242, hy242⟩ : ∃ y_ : List (S110), y_ = (x4_1 ++ [(⟨t235, t238⟩ : S110)]) := ⟨_, rfl⟩
   replace H : (spec_l24Spans.l0 k1 y242 (l0_2.length : Int) (wrap64 (x6_1 + 1)) a0_0 a0_1 l0_2 a0_3 a0_4) = some (r1, r2) := by first | (rw [hy242]; with_reducible exact H) | (have H2_ := (Option.bind_some _ _).symm.trans H; rw [hy242]; with_reducible exact H2_) | (have H2_ := (Option.bind_some _ _).symm.trans H; with_reducible exact H2_) | with_reducible exact H | (rw [hy242]; exact H) | exact H
   have Ny242 := zA hy242
   clear hy242
   have H' := zA H
   clear H
   try go_wp2
   replace HO_4 := zA (Kd.R_drew HO_4.out)
   replace BK227 := zA (blk_drew BK227.out)
   replace HB := zA (below_drew1 HB.out)
   refine start_ (n := 9) (S := fun w' => w'.cell? ⟨gb227, 0, none⟩ = some (.int .i64 a0_0) ∧ w'.cell? ⟨gb227, 1, none⟩ = some (.int .i64 a0_1) ∧ w'.cell? ⟨gb227, 2, none⟩ = some (.slice A0_2 l0_2.length c0_2) ∧ w'.cell? ⟨gb227, 3, none⟩ = some (.int .i64 a0_3) ∧ w'.cell? ⟨gb227, 4, none⟩ = some (.int .i64 a0_4)) (ds := []) #[F,F,F,F,F,F,F,F,F] (by kernel_rfl) rfl rfl ⟨zc0 BK227, zc1 BK227, zc2 BK227, zc3 BK227, zc4 BK227⟩ (fun hHeld => ?_); refine with_tabW spec_l24Spans.tab6 spec_l24Spans.bits6 (fun HT_ HW_ => ?_)
   generalize wr.drew = w37 at HO_4 BK227 HB hHeld ⊢
   refine zq HT_ 1 ?_
   refine zq HT_ 4 ?_
   refine zk5 HT_ HW_ hHeld 0 ?_
   refine zk5 HT_ HW_ hHeld 3 ?_
   refine join_ (σ := Nat) 1 #[T,T,T,T,T,T,T,T,F] (fun s_ => [(20, .int .i64 t231), (23, .int .i64 t232), (7, .pointer (some ⟨s_, 0, none⟩)), (24, .agg #[.int .i64 t231, .int .i64 t232])]) (fun s_ w' => (w'.cell? ⟨gb227, 0, none⟩ = some (.int .i64 a0_0) ∧ w'.cell? ⟨gb227, 1, none⟩ = some (.int .i64 a0_1) ∧ w'.cell? ⟨gb227, 2, none⟩ = some (.slice A0_2 l0_2.length c0_2) ∧ w'.cell? ⟨gb227, 3, none⟩ = some (.int .i64 a0_3) ∧ w'.cell? ⟨gb227, 4, none⟩ = some (.int .i64 a0_4)) ∧ (Kd.R k110 110 w' w.heap.size (fun k_ => k_ ≠ s_) u4 x4_1) ∧ (w'.heap[gb227]? = some (.cells #[.int .i64 a0_0, .int .i64 a0_1, .slice A0_2 l0_2.length c0_2, .int .i64 a0_3, .int .i64 a0_4] 68 (0, 0))) ∧ (w'.heap[s_]? = some (.cells #[.int .i64 0, .int .i64 0] 110 (0, 0))) ∧ (w.heap.size ≤ s_) ∧ (w.heap.size ≤ s_) ∧ (gb227 ≠ s_) ∧ (s_ ≠ gb227) ∧ (Below w.heap.size w w')) ?_ ?_
   rotate_left
   ·intro hCont
    refine two_ (i := 2) (j := 7) (Ni := some 20) (Nj := some 7) #[T,T,T,T,T,F,F,F,F] #[T,T,F,T,T,F,F,T,F] rfl rfl rfl rfl (two_of HT_.out (by kernel_rfl)) (by decide) (by decide) (fun K hK => ?_) (fun K hK => ?_)
    ·skip
     refine zgo Try.func152 #[.agg #[.int .i64 a0_0, .int .i64 a0_1, .slice A0_2 l0_2.length c0_2, .int .i64 a0_3, .int .i64 a0_4], .int .i64 x6_1] ?_
     with_reducible refine (spec_l23Low.calls a0_0 a0_1 _ _ l0_2 a0_3 a0_4 x6_1 t231 _ ?side1 ?side2 A7.out).mono ?_
     (case side1 => exact zC HR0_2 HB)
     (case side2 => exact HC0_2.out)
     rintro e w38 ⟨rfl, hb⟩
     refine ⟨_, rfl, ?_⟩
     replace HO_4 := zA (Kd.R_below (zr HO_4) hb)
     replace BK227 := zb BK227 hb
     replace HB := zE (zs1 HB GE227) hb
     (try clear hb)
     (try clear hb2)
     (try clear hk)
     (try clear hi)
     refine hK.out _ _ ⟨zc0 BK227, zc1 BK227, zc2 BK227, zc3 BK227, zc4 BK227⟩ (fun hHeld => ?_)
     clear hK K
     refine zN ?_
     refine two_ (i := 5) (j := 7) (Ni := some 23) (Nj := some 7) #[T,T,T,T,T,T,F,F,F] #[T,T,T,T,T,F,F,T,F] rfl rfl rfl rfl (two_of HT_.out (by kernel_rfl)) (by decide) (by decide) (fun K hK => ?_) (fun K hK => ?_)
     ·skip
      refine zgo Try.func153 #[.agg #[.int .i64 a0_0, .int .i64 a0_1, .slice A0_2 l0_2.length c0_2, .int .i64 a0_3, .int .i64 a0_4], .int .i64 x6_1] ?_
      with_reducible refine (spec_l23High.calls a0_0 a0_1 _ _ l0_2 a0_3 a0_4 x6_1 t232 _ ?side1 ?side2 A8.out).mono ?_
      (case side1 => exact zC HR0_2 HB)
      (case side2 => exact HC0_2.out)
      rintro e w39 ⟨rfl, hb⟩
      refine ⟨_, rfl, ?_⟩
      replace HO_4 := zA (Kd.R_below (zr HO_4) hb)
      replace BK227 := zb BK227 hb
      replace HB := zE (zs1 HB GE227) hb
      (try clear hb)
      (try clear hb2)
      (try clear hk)
      (try clear hi)
      refine hK.out _ _ ⟨zc0 BK227, zc1 BK227, zc2 BK227, zc3 BK227, zc4 BK227⟩ (fun hHeld => ?_)
      clear hK K
      refine zN ?_
      refine zq HT_ 6 ?_
      refine zo HT_ 7 (fun K hK => ?_)
      refine box_step (by rfl) (N := 7) (by rfl) (cs := #[.int .i64 0, .int .i64 0]) (t := 110) zg ?_
      intro gb233 hg w40 hbox hb
      have BK233 := zA hbox
      have GW233 := zgs hg (zs1 HB GE227)
      have GE233 := zgs hg (zs1 HB GE227)
      have NB227_233 := zne hg BK227
      have NB233_227 := znf hg BK227
      replace HO_4 := zA (Kd.R_below (Kd.R_elderB (zr HO_4) gb233 (Nat.le_of_eq hg.symm)) hb)
      replace BK227 := zb BK227 hb
      replace HB := zE (zs1 HB GE227) hb
      clear hb hbox hg
      refine hK.out _ _ ⟨zc0 BK227, zc1 BK227, zc2 BK227, zc3 BK227, zc4 BK227⟩ (fun hHeld => ?_)
      clear hK K
      refine zN ?_
      exact norm_ (by simp only [putAll, Act.put, List.setIfInBounds_toArray, List.set_cons_zero, List.set_cons_succ]) (hCont (gb233) _ ⟨hHeld, (by (with_reducible repeat (first | apply Kd.R_alloc | apply Kd.R_drewN | apply Kd.R_drew)); exact Kd.R_mono HO_4.out (fun _ hk => hk.2)), (zh BK227), (zh BK233), GW233.out, GE233.out, NB227_233.out, NB233_227.out, (zs2 HB GE227 GE233)⟩)
     ·skip
      refine box_step (by rfl) (N := 7) (by rfl) (cs := #[.int .i64 0, .int .i64 0]) (t := 110) zg ?_
      intro gb233 hg w39 hbox hb
      have BK233 := zA hbox
      have GW233 := zgs hg (zs1 HB GE227)
      have GE233 := zgs hg (zs1 HB GE227)
      have NB227_233 := zne hg BK227
      have NB233_227 := znf hg BK227
      replace HO_4 := zA (Kd.R_below (Kd.R_elderB (zr HO_4) gb233 (Nat.le_of_eq hg.symm)) hb)
      replace BK227 := zb BK227 hb
      replace HB := zE (zs1 HB GE227) hb
      clear hb hbox hg
      refine hK.out _ _ ⟨zc0 BK227, zc1 BK227, zc2 BK227, zc3 BK227, zc4 BK227⟩ (fun hHeld => ?_)
      clear hK K
      refine zN ?_
      refine zo HT_ 5 (fun K hK => ?_)
      refine zgo Try.func153 #[.agg #[.int .i64 a0_0, .int .i64 a0_1, .slice A0_2 l0_2.length c0_2, .int .i64 a0_3, .int .i64 a0_4], .int .i64 x6_1] ?_
      with_reducible refine (spec_l23High.calls a0_0 a0_1 _ _ l0_2 a0_3 a0_4 x6_1 t232 _ ?side1 ?side2 A8.out).mono ?_
      (case side1 => exact zC HR0_2 HB)
      (case side2 => exact HC0_2.out)
      rintro e w40 ⟨rfl, hb⟩
      refine ⟨_, rfl, ?_⟩
      replace HO_4 := zA (Kd.R_below (zr HO_4) hb)
      replace BK227 := zb BK227 hb
      replace BK233 := zb BK233 hb
      replace HB := zE (zs2 HB GE227 GE233) hb
      (try clear hb)
      (try clear hb2)
      (try clear hk)
      (try clear hi)
      refine hK.out _ _ ⟨zc0 BK227, zc1 BK227, zc2 BK227, zc3 BK227, zc4 BK227⟩ (fun hHeld => ?_)
      clear hK K
      refine zN ?_
      refine zq HT_ 6 ?_
      exact norm_ (by simp only [putAll, Act.put, List.setIfInBounds_toArray, List.set_cons_zero, List.set_cons_succ]) (hCont (gb233) _ ⟨hHeld, (by (with_reducible repeat (first | apply Kd.R_alloc | apply Kd.R_drewN | apply Kd.R_drew)); exact Kd.R_mono HO_4.out (fun _ hk => hk.2)), (zh BK227), (zh BK233), GW233.out, GE233.out, NB227_233.out, NB233_227.out, (zs2 HB GE227 GE233)⟩)
    ·skip
     refine box_step (by rfl) (N := 7) (by rfl) (cs := #[.int .i64 0, .int .i64 0]) (t := 110) zg ?_
     intro gb233 hg w38 hbox hb
     have BK233 := zA hbox
     have GW233 := zgs hg (zs1 HB GE227)
     have GE233 := zgs hg (zs1 HB GE227)
     have NB227_233 := zne hg BK227
     have NB233_227 := znf hg BK227
     replace HO_4 := zA (Kd.R_below (Kd.R_elderB (zr HO_4) gb233 (Nat.le_of_eq hg.symm)) hb)
     replace BK227 := zb BK227 hb
     replace HB := zE (zs1 HB GE227) hb
     clear hb hbox hg
     refine hK.out _ _ ⟨zc0 BK227, zc1 BK227, zc2 BK227, zc3 BK227, zc4 BK227⟩ (fun hHeld => ?_)
     clear hK K
     refine zN ?_
     refine zo HT_ 2 (fun K hK => ?_)
     refine zgo Try.func152 #[.agg #[.int .i64 a0_0, .int .i64 a0_1, .slice A0_2 l0_2.length c0_2, .int .i64 a0_3, .int .i64 a0_4], .int .i64 x6_1] ?_
     with_reducible refine (spec_l23Low.calls a0_0 a0_1 _ _ l0_2 a0_3 a0_4 x6_1 t231 _ ?side1 ?side2 A7.out).mono ?_
     (case side1 => exact zC HR0_2 HB)
     (case side2 => exact HC0_2.out)
     rintro e w39 ⟨rfl, hb⟩
     refine ⟨_, rfl, ?_⟩
     replace HO_4 := zA (Kd.R_below (zr HO_4) hb)
     replace BK227 := zb BK227 hb
     replace BK233 := zb BK233 hb
     replace HB := zE (zs2 HB GE227 GE233) hb
     (try clear hb)
     (try clear hb2)
     (try clear hk)
     (try clear hi)
     refine hK.out _ _ ⟨zc0 BK227, zc1 BK227, zc2 BK227, zc3 BK227, zc4 BK227⟩ (fun hHeld => ?_)
     clear hK K
     refine zN ?_
     refine zo HT_ 5 (fun K hK => ?_)
     refine zgo Try.func153 #[.agg #[.int .i64 a0_0, .int .i64 a0_1, .slice A0_2 l0_2.length c0_2, .int .i64 a0_3, .int .i64 a0_4], .int .i64 x6_1] ?_
     with_reducible refine (spec_l23High.calls a0_0 a0_1 _ _ l0_2 a0_3 a0_4 x6_1 t232 _ ?side1 ?side2 A8.out).mono ?_
     (case side1 => exact zC HR0_2 HB)
     (case side2 => exact HC0_2.out)
     rintro e w40 ⟨rfl, hb⟩
     refine ⟨_, rfl, ?_⟩
     replace HO_4 := zA (Kd.R_below (zr HO_4) hb)
     replace BK227 := zb BK227 hb
     replace BK233 := zb BK233 hb
     replace HB := zE (zs2 HB GE227 GE233) hb
     (try clear hb)
     (try clear hb2)
     (try clear hk)
     (try clear hi)
     refine hK.out _ _ ⟨zc0 BK227, zc1 BK227, zc2 BK227, zc3 BK227, zc4 BK227⟩ (fun hHeld => ?_)
     clear hK K
     refine zN ?_
     refine zq HT_ 6 ?_
     exact norm_ (by simp only [putAll, Act.put, List.setIfInBounds_toArray, List.set_cons_zero, List.set_cons_succ]) (hCont (gb233) _ ⟨hHeld, (by (with_reducible repeat (first | apply Kd.R_alloc | apply Kd.R_drewN | apply Kd.R_drew)); exact Kd.R_mono HO_4.out (fun _ hk => hk.2)), (zh BK227), (zh BK233), GW233.out, GE233.out, NB227_233.out, NB233_227.out, (zs2 HB GE227 GE233)⟩)
   rintro gb233 w41 ⟨hS_, h0_, h1_, h2_, h3_, h4_, h5_, h6_, h7_⟩
   have BK233 : Aside0 (w41.heap[gb233]? = some (.cells #[.int .i64 0, .int .i64 0] 110 (0, 0))) := ⟨h2_⟩
   have GW233 : Aside0 (w.heap.size ≤ gb233) := ⟨h3_⟩
   have GE233 : Aside0 (w.heap.size ≤ gb233) := ⟨h4_⟩
   have NB227_233 : Aside0 (gb227 ≠ gb233) := ⟨h5_⟩
   have NB233_227 : Aside0 (gb233 ≠ gb227) := ⟨h6_⟩
   replace HO_4 : Aside0 (Kd.R k110 110 w41 w.heap.size (fun k_ => k_ ≠ gb233) u4 x4_1) := ⟨h0_⟩
   replace BK227 : Aside0 (w41.heap[gb227]? = some (.cells #[.int .i64 a0_0, .int .i64 a0_1, .slice A0_2 l0_2.length c0_2, .int .i64 a0_3, .int .i64 a0_4] 68 (0, 0))) := ⟨h1_⟩
   replace HB : Aside0 (Below w.heap.size w w41) := ⟨h7_⟩
   clear h0_ h1_ h2_ h3_ h4_ h5_ h6_ h7_
   have hHeld : w41.cell? ⟨gb227, 0, none⟩ = some (.int .i64 a0_0) ∧ w41.cell? ⟨gb227, 1, none⟩ = some (.int .i64 a0_1) ∧ w41.cell? ⟨gb227, 2, none⟩ = some (.slice A0_2 l0_2.length c0_2) ∧ w41.cell? ⟨gb227, 3, none⟩ = some (.int .i64 a0_3) ∧ w41.cell? ⟨gb227, 4, none⟩ = some (.int .i64 a0_4) := hS_
   refine norm_ (a' := ?_) ?_ ?_
   rotate_left
   ·simp only [putAll, Act.put, List.setIfInBounds_toArray, List.set_cons_zero, List.set_cons_succ]
    rfl
   refine zo HT_ 8 (fun K hK => ?_)
   have hs42 : w41.cell? ⟨gb233, 0, none⟩ = some (.int .i64 0) := zc0 BK233
   have hfs42 := zf BK233 0
   have hns42_0 := NB227_233.out
   have hms42_0 := NB233_227.out
   have hs43 : w41.cell? ⟨gb233, 1, none⟩ = some (.int .i64 0) := zc1 BK233
   have hfs43 := zf BK233 1
   have hns43_0 := NB227_233.out
   have hms43_0 := NB233_227.out
   refine skip_ (w1 := ?_) (by rfl) rfl ?_ ?_
   rotate_left
   ·go_simp
    rfl
   refine hK.out _ _ (zcf hHeld NB227_233) (fun hHeld => ?_)
   clear hK K
   refine done_ (done_of HT_.out (by kernel_rfl)) ?_
   try go_wp2
   obtain ⟨w44, e_⟩ : ∃ x, x = ((w41.setCell ⟨gb233, 0, none⟩ (.int .i64 t231)).setCell ⟨gb233, 1, none⟩ (.int .i64 t232)) := ⟨_, rfl⟩
   have n0_ : Aside0 (Kd.R k110 110 w44 w.heap.size (fun k_ => k_ ≠ gb233) u4 x4_1) := by rw [e_]; exact ⟨by (with_reducible repeat (first | apply Kd.R_alloc | apply Kd.R_drewN | apply Kd.R_drew)); exact Kd.R_mono (Kd.R_far (p := ⟨gb233, 1, none⟩) (Kd.R_far (p := ⟨gb233, 0, none⟩) (Kd.R_mono HO_4.out (fun k_ hk => (⟨hk, hk⟩ : _ ∧ k_ ≠ gb233))) (fun _ hk => hk.2) (.int .i64 t231)) (fun _ hk => hk.2) (.int .i64 t232)) (fun _ hk => hk.1)⟩
   have n1_ : Aside0 (w44.heap[gb227]? = some (.cells #[.int .i64 a0_0, .int .i64 a0_1, .slice A0_2 l0_2.length c0_2, .int .i64 a0_3, .int .i64 a0_4] 68 (0, 0))) := by rw [e_]; exact ⟨zpf BK227 NB227_233⟩
   have n2_ : Aside0 (w44.heap[gb233]? = some (.cells #[.int .i64 t231, .int .i64 t232] 110 (0, 0))) := by rw [e_]; exact ⟨zpb BK233⟩
   have n3_ : Aside0 (Below w.heap.size w w44) := by rw [e_]; exact ⟨zs2 HB GE227 GE233⟩
   (try clear HO_4)
   (try clear BK227)
   (try clear BK233)
   (try clear HB)
   rw [← e_]; clear e_
   have HO_4 := n0_
   have BK227 := n1_
   have BK233 := n2_
   have HB := n3_
   clear n0_ n1_ n2_ n3_
   replace HO_4 := zA (Kd.R_drew HO_4.out)
   replace BK227 := zA (blk_drew BK227.out)
   replace BK233 := zA (blk_drew BK233.out)
   replace HB := zA (below_drew1 HB.out)
   obtain ⟨Ao46, co46, eo46⟩ := Kd.R_slice HO_4.out
   (first | subst eo46 | (injection eo46 with f1_ f2_ f3_; have f4_ := f1_.symm; have f5_ := f3_.symm; clear f1_ f2_ f3_; subst f4_; subst f5_))
   have p234 : 0 ≤ ((ji10) : Int) := za
   have q234 : (ji10) < (x4_1.length : Int) := za
   obtain ⟨ad234, e234, hx234_0, hx234_1⟩ := at_T110 (Kd.R_reads' HO_4.out).2.2 (ji10) p234 q234
   cases e234
   replace p234 := eq_true p234
   replace q234 := eq_true q234
   refine start_ (n := 15) (S := fun w' => w'.cell? ⟨gb233, 0, none⟩ = some (.int .i64 t231) ∧ w'.cell? ⟨gb233, 1, none⟩ = some (.int .i64 t232) ∧ w'.cell? ⟨gb227, 0, none⟩ = some (.int .i64 a0_0) ∧ w'.cell? ⟨gb227, 1, none⟩ = some (.int .i64 a0_1) ∧ w'.cell? ⟨gb227, 2, none⟩ = some (.slice A0_2 l0_2.length c0_2) ∧ w'.cell? ⟨gb227, 3, none⟩ = some (.int .i64 a0_3) ∧ w'.cell? ⟨gb227, 4, none⟩ = some (.int .i64 a0_4) ∧ w'.cell? (ad234.add (((ji10)).toNat * 2)) = some (.int .i64 ((rd_T110 x4_1 (ji10)).f0)) ∧ w'.cell? ⟨(ad234.add (((ji10)).toNat * 2)).block, (ad234.add (((ji10)).toNat * 2)).off + 1, none⟩ = some (.int .i64 ((rd_T110 x4_1 (ji10)).f1))) (ds := [14]) #[F,F,F,F,F,F,F,F,F,F,F,F,F,F,F] (by kernel_rfl) rfl rfl ⟨zc0 BK233, zc1 BK233, zc0 BK227, zc1 BK227, zc2 BK227, zc3 BK227, zc4 BK227, hx234_0, hx234_1⟩ (fun hHeld => ?_); refine with_tabW spec_l24Spans.tab8 spec_l24Spans.bits8 (fun HT_ HW_ => ?_)
   generalize w44.drew = w45 at HO_4 BK227 BK233 HB hx234_0 hx234_1 hHeld ⊢
   refine zq HT_ 0 ?_
   refine zq HT_ 2 ?_
   refine zq HT_ 3 ?_
   refine zq HT_ 4 ?_
   refine zq HT_ 5 ?_
   refine zq HT_ 6 ?_
   refine zq HT_ 8 ?_
   refine zq HT_ 9 ?_
   refine zk9 HT_ HW_ hHeld 1 ?_
   refine zk9 HT_ HW_ hHeld 7 ?_
   refine zk9 HT_ HW_ hHeld 10 ?_
   refine zq HT_ 11 ?_
   refine zo HT_ 12 (fun K hK => ?_)
   refine goes_ Try.func130 (by kernel_rfl) rfl #[.int .i64 t231, .int .i64 (wrap64 (((rd_T110 x4_1 (ji10)).f0) + a0_0))] (by rfl) rfl rfl (by (try simp only [List.map_toArray, List.map_cons, List.map_nil]); first | done | (simp only [hji10]; rfl) | rfl | (simp only [List.length_drop, List.length_take]; rfl)) ?_
   with_reducible refine (spec_l21Max.calls t231 (wrap64 (((rd_T110 x4_1 (ji10)).f0) + a0_0)) t235 _ A13.out).mono ?_
   rintro e w' ⟨rfl, ⟨nd, rfl⟩⟩
   refine ⟨_, rfl, ?_⟩
   refine hK.out _ _ ⟨zc0 BK233, zc1 BK233, zc0 BK227, zc1 BK227, zc2 BK227, zc3 BK227, zc4 BK227, hHeld.2.2.2.2.2.2.2⟩ (fun hHeld => ?_)
   clear hK K
   refine zN ?_
   refine zq HT_ 13 ?_
   refine zO HT_ 14 (fun K hK => ?_)
   have hs47 : w45.cell? ⟨gb233, 0, none⟩ = some (.int .i64 t231) := zc0 BK233
   have hfs47 := zf BK233 0
   have hns47_0 := NB227_233.out
   have hms47_0 := NB233_227.out
   refine skip_ (w1 := ?_) (by rfl) rfl ?_ ?_
   rotate_left
   ·go_simp
    rfl
   refine hK.out _ _ ?_
   clear hK K
   refine done_ (done_of HT_.out (by kernel_rfl)) ?_
   try go_wp2
   have n0_ : Aside0 (Kd.R k110 110 (w45.setCell ⟨gb233, 0, none⟩ (.int .i64 t235)) w.heap.size (fun k_ => k_ ≠ gb233) (.slice (some ad234) x4_1.length co46) x4_1) := ⟨by (with_reducible repeat (first | apply Kd.R_alloc | apply Kd.R_drewN | apply Kd.R_drew)); exact Kd.R_mono (Kd.R_far (p := ⟨gb233, 0, none⟩) (Kd.R_mono HO_4.out (fun k_ hk => (⟨hk, hk⟩ : _ ∧ k_ ≠ gb233))) (fun _ hk => hk.2) (.int .i64 t235)) (fun _ hk => hk.1)⟩
   have n1_ : Aside0 ((w45.setCell ⟨gb233, 0, none⟩ (.int .i64 t235)).heap[gb227]? = some (.cells #[.int .i64 a0_0, .int .i64 a0_1, .slice A0_2 l0_2.length c0_2, .int .i64 a0_3, .int .i64 a0_4] 68 (0, 0))) := ⟨zpf BK227 NB227_233⟩
   have n2_ : Aside0 ((w45.setCell ⟨gb233, 0, none⟩ (.int .i64 t235)).heap[gb233]? = some (.cells #[.int .i64 t235, .int .i64 t232] 110 (0, 0))) := ⟨zpb BK233⟩
   have n3_ : Aside0 (Below w.heap.size w (w45.setCell ⟨gb233, 0, none⟩ (.int .i64 t235))) := ⟨zs2 HB GE227 GE233⟩
   (try clear HO_4)
   (try clear BK227)
   (try clear BK233)
   (try clear HB)
   generalize (w45.setCell ⟨gb233, 0, none⟩ (.int .i64 t235)) = w48 at n0_ n1_ n2_ n3_ ⊢
   have HO_4 := n0_
   have BK227 := n1_
   have BK233 := n2_
   have HB := n3_
   clear n0_ n1_ n2_ n3_
   (try (rw [drewN_self w48]; generalize hq_ : World.drewN w48 _ = w48; replace HO_4 : Aside0 (Kd.R k110 110 w48 w.heap.size (fun k_ => k_ ≠ gb233) (.slice (some ad234) x4_1.length co46) x4_1) := ⟨by rw [← hq_]; exact (zr HO_4)⟩; replace BK227 : Aside0 (w48.heap[gb227]? = some (.cells #[.int .i64 a0_0, .int .i64 a0_1, .slice A0_2 l0_2.length c0_2, .int .i64 a0_3, .int .i64 a0_4] 68 (0, 0))) := ⟨by rw [← hq_]; exact (zh BK227)⟩; replace BK233 : Aside0 (w48.heap[gb233]? = some (.cells #[.int .i64 t235, .int .i64 t232] 110 (0, 0))) := ⟨by rw [← hq_]; exact (zh BK233)⟩; replace HB : Aside0 (Below w.heap.size w w48) := ⟨by rw [← hq_]; exact (zs2 HB GE227 GE233)⟩; clear hq_))
   replace HO_4 := zA (Kd.R_drew HO_4.out)
   replace BK227 := zA (blk_drew BK227.out)
   replace BK233 := zA (blk_drew BK233.out)
   replace HB := zA (below_drew1 HB.out)
   have p236 : 0 ≤ ((ji10) : Int) := za
   have q236 : (ji10) < (x4_1.length : Int) := za
   obtain ⟨ad236, e236, hx236_0, hx236_1⟩ := at_T110 (Kd.R_reads' HO_4.out).2.2 (ji10) p236 q236
   obtain rfl : ad234 = ad236 := (by injection e236)
   replace p236 := eq_true p236
   replace q236 := eq_true q236
   refine start_ (n := 16) (S := fun w' => w'.cell? ⟨gb233, 0, none⟩ = some (.int .i64 t235) ∧ w'.cell? ⟨gb233, 1, none⟩ = some (.int .i64 t232) ∧ w'.cell? ⟨gb227, 0, none⟩ = some (.int .i64 a0_0) ∧ w'.cell? ⟨gb227, 1, none⟩ = some (.int .i64 a0_1) ∧ w'.cell? ⟨gb227, 2, none⟩ = some (.slice A0_2 l0_2.length c0_2) ∧ w'.cell? ⟨gb227, 3, none⟩ = some (.int .i64 a0_3) ∧ w'.cell? ⟨gb227, 4, none⟩ = some (.int .i64 a0_4) ∧ w'.cell? (ad234.add (((ji10)).toNat * 2)) = some (.int .i64 ((rd_T110 x4_1 (ji10)).f0)) ∧ w'.cell? ⟨(ad234.add (((ji10)).toNat * 2)).block, (ad234.add (((ji10)).toNat * 2)).off + 1, none⟩ = some (.int .i64 ((rd_T110 x4_1 (ji10)).f1))) (ds := [15]) #[F,F,F,F,F,F,F,F,F,F,F,F,F,F,F,F] (by kernel_rfl) rfl rfl ⟨zc0 BK233, zc1 BK233, zc0 BK227, zc1 BK227, zc2 BK227, zc3 BK227, zc4 BK227, hx236_0, hx236_1⟩ (fun hHeld => ?_); refine with_tabW spec_l24Spans.tab9 spec_l24Spans.bits9 (fun HT_ HW_ => ?_)
   generalize w48.drew = w49 at HO_4 BK227 BK233 HB hx236_0 hx236_1 hHeld ⊢
   refine zq HT_ 0 ?_
   refine zq HT_ 2 ?_
   refine zq HT_ 3 ?_
   refine zq HT_ 4 ?_
   refine zq HT_ 5 ?_
   refine zq HT_ 6 ?_
   refine zq HT_ 9 ?_
   refine zq HT_ 10 ?_
   refine zk9 HT_ HW_ hHeld 1 ?_
   refine zk9 HT_ HW_ hHeld 7 ?_
   refine zk9 HT_ HW_ hHeld 8 ?_
   refine zo HT_ 11 (fun K hK => ?_)
   refine goes_ Try.func154 (by kernel_rfl) rfl #[.agg #[.int .i64 a0_0, .int .i64 a0_1, .slice A0_2 l0_2.length c0_2, .int .i64 a0_3, .int .i64 a0_4], .int .i64 ji10] (by rfl) rfl rfl (by (try simp only [List.map_toArray, List.map_cons, List.map_nil]); first | done | (simp only [hji10]; rfl) | rfl | (simp only [List.length_drop, List.length_take]; rfl)) ?_
   with_reducible refine (spec_l23Most.calls a0_0 a0_1 _ _ l0_2 a0_3 a0_4 ji10 t237 _ ?side1 ?side2 A14.out).mono ?_
   (case side1 => exact zC HR0_2 HB)
   (case side2 => exact HC0_2.out)
   rintro e w50 ⟨rfl, hb⟩
   have HS7_ := (hb.cell (World.block_lt_of_cell? _ _ (hHeld.2.2.2.2.2.2.2.1))).trans (hHeld.2.2.2.2.2.2.2.1)
   have HS8_ := (hb.cell (World.block_lt_of_cell? _ _ (hHeld.2.2.2.2.2.2.2.2))).trans (hHeld.2.2.2.2.2.2.2.2)
   refine ⟨_, rfl, ?_⟩
   replace HO_4 := zA (Kd.R_below (zr HO_4) hb)
   replace BK227 := zb BK227 hb
   replace BK233 := zb BK233 hb
   replace HB := zE (zs2 HB GE227 GE233) hb
   (try clear hb)
   (try clear hb2)
   (try clear hk)
   (try clear hi)
   refine hK.out _ _ ⟨zc0 BK233, zc1 BK233, zc0 BK227, zc1 BK227, zc2 BK227, zc3 BK227, zc4 BK227, HS7_, HS8_⟩ (fun hHeld => ?_)
   clear hK K
   refine zN ?_
   refine zq HT_ 12 ?_
   refine zo HT_ 13 (fun K hK => ?_)
   refine goes_ Try.func98 (by kernel_rfl) rfl #[.int .i64 t232, .int .i64 (wrap64 (((rd_T110 x4_1 (ji10)).f1) + t237))] (by rfl) rfl rfl (by (try simp only [List.map_toArray, List.map_cons, List.map_nil]); first | done | (simp only [hji10]; rfl) | rfl | (simp only [List.length_drop, List.length_take]; rfl)) ?_
   with_reducible refine (spec_l21Min.calls t232 (wrap64 (((rd_T110 x4_1 (ji10)).f1) + t237)) t238 _ A15.out).mono ?_
   rintro e w' ⟨rfl, ⟨nd, rfl⟩⟩
   refine ⟨_, rfl, ?_⟩
   refine hK.out _ _ ⟨zc0 BK233, zc1 BK233, zc0 BK227, zc1 BK227, zc2 BK227, zc3 BK227, zc4 BK227, hHeld.2.2.2.2.2.2.2⟩ (fun hHeld => ?_)
   clear hK K
   refine zN ?_
   refine zq HT_ 14 ?_
   refine zO HT_ 15 (fun K hK => ?_)
   have hs51 : w50.cell? ⟨gb233, 1, none⟩ = some (.int .i64 t232) := zc1 BK233
   have hfs51 := zf BK233 1
   have hns51_0 := NB227_233.out
   have hms51_0 := NB233_227.out
   refine skip_ (w1 := ?_) (by rfl) rfl ?_ ?_
   rotate_left
   ·go_simp
    rfl
   refine hK.out _ _ ?_
   clear hK K
   refine done_ (done_of HT_.out (by kernel_rfl)) ?_
   have hnb52 := NB233_227.out
   have hnc52 := NB227_233.out
   obtain ⟨hcz53_0, hcz53_1⟩ := zd2 BK233
   obtain ⟨hfz53_0, hfz53_1⟩ := zn2 BK233
   try go_wp2_with (first | ((with_reducible refine gate_builtin (b := .append) (xs := #[.tmp 62, .tmp 64]) rfl ?_); at_builtin; refine Kd.R_append k110 (w0 := w) w.heap.size rfl (.tmp 62) (.tmp 64) 105 110 (.agg #[(.int .i64 0), (.int .i64 0)]) 16 rfl Try.underlying105 info110 rfl (by decide) (by omega) (.slice (some ad234) x4_1.length co46) x4_1 (⟨t235, t238⟩ : S110) [.int .i64 t235, .int .i64 t238] (fun k_ => k_ ≠ gb233) (fun _ => False) rfl (by first | (go_simp; done) | (go_simp; rfl)) ?aP (fun _ hk => hk.elim) ?aF ?aO ?aB ?aS ?aL ?_; (case aP => exact k110_mkM _ _ _ (⟨t235, t238⟩ : S110)); (case aB => exact (zs2 HB GE227 GE233)); (case aF => exact (fun k_ hk => Kd.freshB (g := gb233) (o := .cells #[.int .i64 t235, .int .i64 t238] 110 (0, 0)) (zpb BK233) k_ hk)); (case aO => exact (by (with_reducible repeat (first | apply Kd.R_alloc | apply Kd.R_drewN | apply Kd.R_drew)); exact Kd.R_mono (Kd.R_far (p := ⟨gb233, 1, none⟩) (Kd.R_mono HO_4.out (fun k_ hk => (⟨hk, hk⟩ : _ ∧ k_ ≠ gb233))) (fun _ hk => hk.2) (.int .i64 t238)) (fun _ hk => hk.1))); (case aS => exact (below_size (zs2 HB GE227 GE233))); (case aL => have := LMc36.out; omega); intro v243 w54 ho hb hg hat; rw [← Ny242.out] at ho; have HO244 := zA (ho); replace BK227 := zA (blk_grown (g := gb227) (o := .cells #[.int .i64 a0_0, .int .i64 a0_1, .slice A0_2 l0_2.length c0_2, .int .i64 a0_3, .int .i64 a0_4] 68 (0, 0)) (zpf BK227 NB227_233) hg (Kd.R_ne HO_4.out BK227.out (by decide))); replace BK233 := zA (blk_grown (g := gb233) (o := .cells #[.int .i64 t235, .int .i64 t238] 110 (0, 0)) (zpb BK233) hg (Kd.R_away HO_4.out (fun _ hk => hk))); replace HB := zA (hb); clear HO_4; clear ho hb hg hat))
   go_roundg k1
   case measure => have := HK1.out; omega
   case rel => exact ⟨(y242), (wrap64 (x6_1 + 1)), zi, H', ⟨by have := HK1.out; omega⟩, ⟨by (with_reducible repeat (first | apply Kd.R_alloc | apply Kd.R_drewN | apply Kd.R_drew)); exact Kd.R_mono HO244.out (fun _ hk => trivial)⟩, ⟨zh BK227⟩, ⟨zs2 HB GE227 GE233⟩⟩
end Go.Proofs.Ytbmplfpnhjhoiaa.QFnExactFlyRest
