/- The walk of what the law FnExactFlyTube reaches: laid by a program of this session (ownprint.py). -/
import Derived.Test.YtbmplfpnhjhoiaaQFnExactFlyTubex0
import Derived.Test.YtbmplfpnhjhoiaaQFnExactFlyTubex5
namespace Go.Proofs.Ytbmplfpnhjhoiaa.QFnExactFlyTube
open Go.RowKit Go.Proofs.YtbmplfpnhjhoiaaW.PrintWords Go.Proofs.YtbmplfpnhjhoiaaW.PrintLast Go.Proofs.YtbmplfpnhjhoiaaW.PrintMore Go.Proofs.Ytbmplfpnhjhoiaa.Z
attribute [local go_sem] max2_int min2_int max_two min_two max_three min_three max_four min_four zdn   -- for this text's walks alone
set_option linter.unusedVariables false
set_option linter.unusedSimpArgs false
mutual
def spec_l24Spans.l0 : Nat → List (S110) → Int → Int → Int → Int → List (S132) → Int → Int → Option ((List (S110)) × Bool)
 | 0, _, _, _, _, _, _, _, _ => none
 | k + 1, x4, x5, x6, x177000, x177001, x177002, x177003, x177004 => if x6 ≤ x5 then ((spec_l23Low.f x177000 x177001 x177002 x177003 x177004 x6).bind fun t180 => ((spec_l23High.f x177000 x177001 x177002 x177003 x177004 x6).bind fun t181 => (if x6 > 0 then (if 0 ≤ (wrap64 (x6 - 1)) then (if (wrap64 (x6 - 1)) < (x4.length : Int) then ((spec_l21Max.f t180 (wrap64 (((rd_T110 x4 (wrap64 (x6 - 1))).f0) + x177000))).bind fun t184 => ((spec_l23Most.f x177000 x177001 x177002 x177003 x177004 (wrap64 (x6 - 1))).bind fun t186 => ((spec_l21Min.f t181 (wrap64 (((rd_T110 x4 (wrap64 (x6 - 1))).f1) + t186))).bind fun t187 => (if t184 > t187 then (some ((([] : List (S110))), false)) else (if x4.length < 8796093022208 then (spec_l24Spans.l0 k (x4 ++ [(⟨t184, t187⟩ : S110)]) x5 (wrap64 (x6 + 1)) x177000 x177001 x177002 x177003 x177004) else (none)))))) else (none)) else (none)) else (if t180 > t181 then (some ((([] : List (S110))), false)) else (if x4.length < 8796093022208 then (spec_l24Spans.l0 k (x4 ++ [(⟨t180, t181⟩ : S110)]) x5 (wrap64 (x6 + 1)) x177000 x177001 x177002 x177003 x177004) else (none)))))) else (spec_l24Spans.l1 k x4 (wrap64 (x5 - 1)) x177000 x177001 x177002 x177003 x177004)
def spec_l24Spans.l1 : Nat → List (S110) → Int → Int → Int → List (S132) → Int → Int → Option ((List (S110)) × Bool)
 | 0, _, _, _, _, _, _, _ => none
 | k + 1, x4, x8, x177000, x177001, x177002, x177003, x177004 => if x8 ≥ 0 then (if 0 ≤ x8 then (if x8 < (x4.length : Int) then (if 0 ≤ (wrap64 (x8 + 1)) then (if (wrap64 (x8 + 1)) < (x4.length : Int) then ((spec_l23Most.f x177000 x177001 x177002 x177003 x177004 x8).bind fun t202 => ((spec_l21Max.f ((rd_T110 x4 x8).f0) (wrap64 (((rd_T110 x4 (wrap64 (x8 + 1))).f0) - t202))).bind fun t203 => ((some (x4.set (x8 : Int).toNat (⟨t203, (rd_T110 x4 x8).f1⟩ : S110) : List (S110))).bind fun y204 => ((spec_l21Min.f ((rd_T110 y204 x8).f1) (wrap64 (((rd_T110 y204 (wrap64 (x8 + 1))).f1) - x177000))).bind fun t207 => ((some (y204.set (x8 : Int).toNat (⟨(rd_T110 y204 x8).f0, t207⟩ : S110) : List (S110))).bind fun y208 => (if ((rd_T110 y208 x8).f0) > ((rd_T110 y208 x8).f1) then (some ((([] : List (S110))), false)) else (spec_l24Spans.l1 k y208 (wrap64 (x8 - 1)) x177000 x177001 x177002 x177003 x177004))))))) else (none)) else (none)) else (none)) else (none)) else (some (x4, true))
end
def spec_l24Spans.f (k : Nat) (a0_0 : Int) (a0_1 : Int) (l0_2 : List (S132)) (a0_3 : Int) (a0_4 : Int) : Option ((List (S110)) × Bool) := spec_l24Spans.l0 k (([] : List (S110))) (l0_2.length : Int) 0 a0_0 a0_1 l0_2 a0_3 a0_4
def spec_l24Spans.T6 : Bool × List (List Nat × List Nat) := (true, [([], []), ([], []), ([0, 1], [0, 1]), ([], []), ([], []), ([3, 4, 2], [3, 4]), ([2, 5], [2, 5]), ([], []), ([7, 6, 5, 0, 1, 2, 3, 4, 5, 6, 7], [6, 7])])
def spec_l24Spans.B6 : List Nat := [0, 0, 3, 0, 0, 31, 63, 0, 255]
theorem spec_l24Spans.tab6 : rtab .any (opsOf Try.f121 6) = spec_l24Spans.T6 := by kernel_rfl
theorem spec_l24Spans.bits6 : waitsOk spec_l24Spans.T6.2 spec_l24Spans.B6 = true := by kernel_rfl
def spec_l24Spans.T8 : Bool × List (List Nat × List Nat) := (true, [([], []), ([0], [0]), ([], []), ([], []), ([3], [3]), ([2, 4], [2, 4]), ([5], [5]), ([6], [6]), ([], []), ([8], [8]), ([9], [9]), ([7, 10], [7, 10]), ([1, 11], [1, 11]), ([0, 1, 2, 3, 4, 5, 6, 7, 8, 9, 10, 11, 12], []), ([13, 12, 12, 0, 1, 2, 3, 4, 5, 6, 7, 8, 9, 10, 11, 12], [12, 13])])
def spec_l24Spans.B8 : List Nat := [0, 1, 0, 0, 8, 28, 60, 124, 0, 256, 768, 2044, 4095, 8191, 16383]
theorem spec_l24Spans.tab8 : rtab .any (opsOf Try.f121 8) = spec_l24Spans.T8 := by kernel_rfl
theorem spec_l24Spans.bits8 : waitsOk spec_l24Spans.T8.2 spec_l24Spans.B8 = true := by kernel_rfl
def spec_l24Spans.T9 : Bool × List (List Nat × List Nat) := (true, [([], []), ([0], [0]), ([], []), ([], []), ([3], [3]), ([2, 4], [2, 4]), ([5], [5]), ([6], [6]), ([], []), ([], []), ([9], [9]), ([8, 10], [8, 10]), ([7, 11], [7, 11]), ([1, 12, 11], [1, 12]), ([0, 1, 2, 3, 4, 5, 6, 7, 8, 9, 10, 11, 12, 13], []), ([14, 13, 13, 0, 1, 2, 3, 4, 5, 6, 7, 8, 9, 10, 11, 12, 13], [13, 14])])
def spec_l24Spans.B9 : List Nat := [0, 1, 0, 0, 8, 28, 60, 124, 0, 0, 512, 1792, 4092, 8191, 16383, 32767]
theorem spec_l24Spans.tab9 : rtab .any (opsOf Try.f121 9) = spec_l24Spans.T9 := by kernel_rfl
theorem spec_l24Spans.bits9 : waitsOk spec_l24Spans.T9.2 spec_l24Spans.B9 = true := by kernel_rfl
def spec_l24Spans.T16 : Bool × List (List Nat × List Nat) := (true, [([], []), ([], []), ([], []), ([], []), ([2, 3], [2, 3]), ([4], [4]), ([5], [5]), ([], []), ([], []), ([8], [8]), ([7, 9], [7, 9]), ([10], [10]), ([11], [11]), ([], []), ([], []), ([13, 14], [13, 14]), ([12, 15], [12, 15]), ([6, 16, 15], [6, 16]), ([0, 1, 0, 1, 2, 3, 4, 5, 6, 7, 8, 9, 10, 11, 12, 13, 14, 15, 16, 17], [0, 1]), ([18, 0, 1, 2, 3, 4, 5, 6, 7, 8, 9, 10, 11, 12, 13, 14, 15, 16, 17], [18]), ([19, 17, 17, 0, 1, 2, 3, 4, 5, 6, 7, 8, 9, 10, 11, 12, 13, 14, 15, 16, 17], [17, 19])])
def spec_l24Spans.B16 : List Nat := [0, 0, 0, 0, 12, 28, 60, 0, 0, 256, 896, 1920, 3968, 0, 0, 24576, 65408, 131068, 262143, 524287, 1048575]
theorem spec_l24Spans.tab16 : rtab .any (opsOf Try.f121 16) = spec_l24Spans.T16 := by kernel_rfl
theorem spec_l24Spans.bits16 : waitsOk spec_l24Spans.T16.2 spec_l24Spans.B16 = true := by kernel_rfl
def spec_l24Spans.T17 : Bool × List (List Nat × List Nat) := (true, [([], []), ([], []), ([], []), ([], []), ([2, 3], [2, 3]), ([4], [4]), ([5], [5]), ([], []), ([], []), ([8], [8]), ([7, 9], [7, 9]), ([10], [10]), ([11], [11]), ([], []), ([13], [13]), ([14], [14]), ([12, 15], [12, 15]), ([6, 16], [6, 16]), ([0, 1, 0, 1, 2, 3, 4, 5, 6, 7, 8, 9, 10, 11, 12, 13, 14, 15, 16, 17], [0, 1]), ([18, 0, 1, 2, 3, 4, 5, 6, 7, 8, 9, 10, 11, 12, 13, 14, 15, 16, 17], [18]), ([19, 17, 17, 0, 1, 2, 3, 4, 5, 6, 7, 8, 9, 10, 11, 12, 13, 14, 15, 16, 17], [17, 19])])
def spec_l24Spans.B17 : List Nat := [0, 0, 0, 0, 12, 28, 60, 0, 0, 256, 896, 1920, 3968, 0, 8192, 24576, 65408, 131068, 262143, 524287, 1048575]
theorem spec_l24Spans.tab17 : rtab .any (opsOf Try.f121 17) = spec_l24Spans.T17 := by kernel_rfl
theorem spec_l24Spans.bits17 : waitsOk spec_l24Spans.T17.2 spec_l24Spans.B17 = true := by kernel_rfl
def spec_l24Spans.T18 : Bool × List (List Nat × List Nat) := (true, [([], []), ([], []), ([0, 1], [0, 1]), ([2], [2]), ([3], [3]), ([], []), ([], []), ([5, 6], [5, 6]), ([7], [7]), ([8], [8]), ([4, 9], [4, 9])])
def spec_l24Spans.B18 : List Nat := [0, 0, 3, 7, 15, 0, 0, 96, 224, 480, 1023]
theorem spec_l24Spans.tab18 : rtab .any (opsOf Try.f121 18) = spec_l24Spans.T18 := by kernel_rfl
theorem spec_l24Spans.bits18 : waitsOk spec_l24Spans.T18.2 spec_l24Spans.B18 = true := by kernel_rfl
set_option maxHeartbeats 8000000 in
set_option maxRecDepth 100000 in
theorem spec_l24Spans.calls (k : Nat) (a0_0 : Int) (a0_1 : Int) (A0_2 : Option Addr) (c0_2 : Nat) (l0_2 : List (S132)) (a0_3 : Int) (a0_4 : Int) (r1 : List (S110)) (r2 : Bool) (w : World) (hr0_2 : Kd.C k132 w A0_2 l0_2.length l0_2) (hc0_2 : l0_2.length ≤ c0_2) (h : spec_l24Spans.f k a0_0 a0_1 l0_2 a0_3 a0_4 = some (r1, r2)) :
 Calls Try.prog 121 #[.agg #[.int .i64 a0_0, .int .i64 a0_1, .slice A0_2 l0_2.length c0_2, .int .i64 a0_3, .int .i64 a0_4]] w fun e w' => ∃ v0_ : Value, e = .returned (.tuple #[v0_, .bool r2]) ∧ Kd.R k110 110 w' w.heap.size (fun _ => True) v0_ r1 ∧ Below w.heap.size w w' := by
 have hu68 := Try.underlying68
 have hu110 := Try.underlying110
 have HR0_2 := zA hr0_2
 have HC0_2 := zA hc0_2
 clear hr0_2 hc0_2
 have HB := zA (Below.refl w.heap.size w)
 have H : (spec_l24Spans.l0 k (([] : List (S110))) (l0_2.length : Int) 0 a0_0 a0_1 l0_2 a0_3 a0_4) = some (r1, r2) := h
 clear h
 obtain ⟨y177, hy177⟩ : ∃ y_ : List (S110), y_ = (([] : List (S110))) := ⟨_, rfl⟩
 replace H : (spec_l24Spans.l0 k y177 (l0_2.length : Int) 0 a0_0 a0_1 l0_2 a0_3 a0_4) = some (r1, r2) := by first | (rw [hy177]; with_reducible exact H) | (have H2_ := (Option.bind_some _ _).symm.trans H; rw [hy177]; with_reducible exact H2_) | (have H2_ := (Option.bind_some _ _).symm.trans H; with_reducible exact H2_) | with_reducible exact H | (rw [hy177]; exact H) | exact H
 have Ny177 := zA hy177
 clear hy177
 have H' := zA H
 clear H
 go_enter Try.func121, Try.ntmps121
 go_wp2_with (first | ((with_reducible refine gate_dst (N := 1) rfl ?_); refine box_event (by rfl) (N := 1) (by rfl) (cs := #[.int .i64 a0_0, .int .i64 a0_1, .slice A0_2 l0_2.length c0_2, .int .i64 a0_3, .int .i64 a0_4]) (t := 68) zg ?_; intro gb176 hg w2 hbox hb; have n0_ := zA (below_step (zs0 HB) hb); have n1_ := zA (hbox); have n2_ := zA ((by rw [hg]; exact (below_size (zs0 HB)) : w.heap.size ≤ gb176)); have n3_ := zA ((by rw [hg]; exact (below_size (zs0 HB)) : w.heap.size ≤ gb176)); clear HB; have HB := n0_; have BK176 := n1_; have GW176 := n2_; have GE176 := n3_; clear n0_ n1_ n2_ n3_; clear hb hbox hg) | ((with_reducible refine gate_dst (N := 9) rfl ?_); refine Kd.R_lit k110 _ 110 ?hg (N := 9) ?hd (xs := ([] : List (S110))) (inner := []) (ok := fun _ => True) (okp := fun _ => True) ?hr ?hp (fun _ hk => hk) trivial (Below.refl _ _) (Nat.le_refl _) (by simp) ?_; (case hd => rfl); (case hg => rfl); (case hr => first | (go_simp; done) | (go_simp; rfl)); (case hp => exact (Reps.none _ _)); intro v178 w3 ho4 hb hg_ hnew_; clear hg_ hnew_; (first | rw [← Ny177.out] at ho4 | (simp only [Int.reduceToNat] at ho4; rw [← Ny177.out] at ho4)); have n0_ := zA (Kd.R_lower ho4 (below_size (zs1 HB GE176))); have n1_ := zb BK176 hb; have n2_ := zA (below_step (zs1 HB GE176) hb); clear BK176; clear HB; have HO179 := n0_; have BK176 := n1_; have HB := n2_; clear n0_ n1_ n2_; clear hb ho4; obtain ⟨hcz5_0, hcz5_1, hcz5_2, hcz5_3, hcz5_4⟩ := zd5 BK176; obtain ⟨hfz5_0, hfz5_1, hfz5_2, hfz5_3, hfz5_4⟩ := zn5 BK176))
 go_loopg [4, 6] k (fun kq v4 v6 w' => ∃ (x4_1 : List (S110)) (x6_1 : Int), v6 = .int .i64 x6_1 ∧ Aside0 (spec_l24Spans.l0 kq x4_1 (l0_2.length : Int) x6_1 a0_0 a0_1 l0_2 a0_3 a0_4 = some (r1, r2)) ∧ Aside0 (kq ≤ k) ∧ Aside0 (Kd.R k110 110 w' w.heap.size (fun _ => True) v4 x4_1) ∧ Aside0 (w'.heap[gb176]? = some (.cells #[.int .i64 a0_0, .int .i64 a0_1, (.slice A0_2 l0_2.length c0_2), .int .i64 a0_3, .int .i64 a0_4] 68 (0, 0))) ∧ Aside0 (Below w.heap.size w w'))
 case atStart => exact ⟨(y177), (0), zi, H', ⟨Nat.le_refl _⟩, ⟨zr HO179⟩, ⟨zh BK176⟩, ⟨zs1 HB GE176⟩⟩
 case round =>
  clear H'
  try clear c1
  try clear p2
  try clear hcz5_0
  try clear hcz5_1
  try clear hcz5_2
  try clear hcz5_3
  try clear hcz5_4
  try clear hfz5_0
  try clear hfz5_1
  try clear hfz5_2
  try clear hfz5_3
  try clear hfz5_4
  obtain ⟨x4_1, x6_1, rfl, HA, HK1, HO_4, BK176, HB⟩ := hrel
  cases gk with
  | zero => exact absurd HA.out (by simp [spec_l24Spans.l0])
  | succ k1 =>
   have H := HA.out
   clear HA
   simp only [spec_l24Spans.l0] at H
   by_cases c6 : x6_1 ≤ (l0_2.length : Int)
   rotate_left
   ·rw [if_neg c6] at H
    have c6b0 : decide (x6_1 ≤ (l0_2.length : Int)) = false := decide_eq_false c6
    clear c6
    have H' := zA H
    clear H
    go_wp2
    go_loopg [8] k1 (fun kq v8 w' => ∃ (x4_2 : List (S110)) (x8_2 : Int), v8 = .int .i64 x8_2 ∧ Aside0 (spec_l24Spans.l1 kq x4_2 x8_2 a0_0 a0_1 l0_2 a0_3 a0_4 = some (r1, r2)) ∧ Aside0 (kq ≤ k1) ∧ Aside0 (Kd.R k110 110 w' w.heap.size (fun _ => True) u4 x4_2) ∧ Aside0 (w'.heap[gb176]? = some (.cells #[.int .i64 a0_0, .int .i64 a0_1, (.slice A0_2 l0_2.length c0_2), .int .i64 a0_3, .int .i64 a0_4] 68 (0, 0))) ∧ Aside0 (Below w.heap.size w w'))
    case atStart => exact ⟨(x4_1), (wrap64 ((l0_2.length : Int) - 1)), zi, H', ⟨Nat.le_refl _⟩, ⟨zr HO_4⟩, ⟨zh BK176⟩, ⟨zs1 HB GE176⟩⟩
    case round =>
     clear H'
     try clear c1
     try clear p2
     try clear c5
     try clear c6
     try clear c6b0
     try clear p6
     try clear c7
     try clear c15
     try clear c55
     try clear c55b0
     try clear c63
     try clear p64
     try clear c67
     try clear c75
     try clear hcz64_0
     try clear hcz64_1
     try clear hcz76_0
     try clear hcz76_1
     try clear hfz64_0
     try clear hfz64_1
     try clear hfz76_0
     try clear hfz76_1
     obtain ⟨x4_2, x8_2, rfl, HA, HK2, HO_4, BK176, HB⟩ := hrel
     cases gk with
     | zero => exact absurd HA.out (by simp [spec_l24Spans.l1])
     | succ k2 =>
      have H := HA.out
      clear HA
      simp only [spec_l24Spans.l1] at H
      by_cases c78 : x8_2 ≥ 0
      rotate_left
      ·rw [if_neg c78] at H
       have c78b0 : decide (0 ≤ x8_2) = false := decide_eq_false c78
       clear c78
       simp only [Option.some.injEq, Prod.mk.injEq] at H
       obtain ⟨rfl, rfl⟩ := H
       go_wp2
       go_ret2
       exact ⟨_, ze, zr HO_4, zs1 HB GE176⟩
      rw [if_pos c78] at H
      have c78b0 : decide (0 ≤ x8_2) = true := decide_eq_true c78
      clear c78
      by_cases c79 : 0 ≤ x8_2
      rotate_left
      ·rw [if_neg c79] at H
       exact absurd H (by simp)
      rw [if_pos c79] at H
      have c79b0 : decide (0 ≤ x8_2) = true := decide_eq_true c79
      clear c79
      by_cases c80 : x8_2 < (x4_2.length : Int)
      rotate_left
      ·rw [if_neg c80] at H
       exact absurd H (by simp)
      rw [if_pos c80] at H
      have c80b0 : decide (x8_2 < (x4_2.length : Int)) = true := decide_eq_true c80
      clear c80
      obtain ⟨ji81, hji81⟩ : ∃ j_ : Int, (wrap64 (x8_2 + 1)) = j_ := ⟨_, rfl⟩
      replace H : (if 0 ≤ (ji81) then (if (ji81) < (x4_2.length : Int) then ((spec_l23Most.f a0_0 a0_1 l0_2 a0_3 a0_4 x8_2).bind fun t202 => ((spec_l21Max.f ((rd_T110 x4_2 x8_2).f0) (wrap64 (((rd_T110 x4_2 (ji81)).f0) - t202))).bind fun t203 => ((some (x4_2.set (x8_2 : Int).toNat (⟨t203, (rd_T110 x4_2 x8_2).f1⟩ : S110) : List (S110))).bind fun y204 => ((spec_l21Min.f ((rd_T110 y204 x8_2).f1) (wrap64 (((rd_T110 y204 (ji81)).f1) - a0_0))).bind fun t207 => ((some (y204.set (x8_2 : Int).toNat (⟨(rd_T110 y204 x8_2).f0, t207⟩ : S110) : List (S110))).bind fun y208 => (if ((rd_T110 y208 x8_2).f0) > ((rd_T110 y208 x8_2).f1) then (some ((([] : List (S110))), false)) else (spec_l24Spans.l1 k2 y208 (wrap64 (x8_2 - 1)) a0_0 a0_1 l0_2 a0_3 a0_4))))))) else (none)) else (none)) = some (r1, r2) := by first | (rw [hji81] at H; exact H) | (simp only [hji81] at H ⊢; exact H)
      have hji81w : (IntKind.i64.wrap (x8_2 + 1)) = ji81 := (i64_w _).trans hji81
      by_cases c82 : 0 ≤ (ji81)
      rotate_left
      ·rw [if_neg c82] at H
       exact absurd H (by simp)
      rw [if_pos c82] at H
      have c82b0 : decide (0 ≤ (ji81)) = true := decide_eq_true c82
      clear c82
      by_cases c83 : (ji81) < (x4_2.length : Int)
      rotate_left
      ·rw [if_neg c83] at H
       exact absurd H (by simp)
      rw [if_pos c83] at H
      have c83b0 : decide ((ji81) < (x4_2.length : Int)) = true := decide_eq_true c83
      clear c83
      replace H := Option.bind_eq_some_iff.mp H
      obtain ⟨t202, A840, H⟩ := H
      replace H : ((spec_l21Max.f ((rd_T110 x4_2 x8_2).f0) (wrap64 (((rd_T110 x4_2 (ji81)).f0) - t202))).bind fun t203 => ((some (x4_2.set (x8_2 : Int).toNat (⟨t203, (rd_T110 x4_2 x8_2).f1⟩ : S110) : List (S110))).bind fun y204 => ((spec_l21Min.f ((rd_T110 y204 x8_2).f1) (wrap64 (((rd_T110 y204 (ji81)).f1) - a0_0))).bind fun t207 => ((some (y204.set (x8_2 : Int).toNat (⟨(rd_T110 y204 x8_2).f0, t207⟩ : S110) : List (S110))).bind fun y208 => (if ((rd_T110 y208 x8_2).f0) > ((rd_T110 y208 x8_2).f1) then (some ((([] : List (S110))), false)) else (spec_l24Spans.l1 k2 y208 (wrap64 (x8_2 - 1)) a0_0 a0_1 l0_2 a0_3 a0_4)))))) = some (r1, r2) := H
      have A84 := zA A840
      clear A840
      replace H := Option.bind_eq_some_iff.mp H
      obtain ⟨t203, A850, H⟩ := H
      replace H : ((some (x4_2.set (x8_2 : Int).toNat (⟨t203, (rd_T110 x4_2 x8_2).f1⟩ : S110) : List (S110))).bind fun y204 => ((spec_l21Min.f ((rd_T110 y204 x8_2).f1) (wrap64 (((rd_T110 y204 (ji81)).f1) - a0_0))).bind fun t207 => ((some (y204.set (x8_2 : Int).toNat (⟨(rd_T110 y204 x8_2).f0, t207⟩ : S110) : List (S110))).bind fun y208 => (if ((rd_T110 y208 x8_2).f0) > ((rd_T110 y208 x8_2).f1) then (some ((([] : List (S110))), false)) else (spec_l24Spans.l1 k2 y208 (wrap64 (x8_2 - 1)) a0_0 a0_1 l0_2 a0_3 a0_4))))) = some (r1, r2) := H
      have A85 := zA A850
      clear A850
      obtain ⟨y204, hy204⟩ : ∃ y_ : List (S110), y_ = (x4_2.set (x8_2 : Int).toNat (⟨t203, (rd_T110 x4_2 x8_2).f1⟩ : S110)) := ⟨_, rfl⟩
      replace H : ((spec_l21Min.f ((rd_T110 y204 x8_2).f1) (wrap64 (((rd_T110 y204 (ji81)).f1) - a0_0))).bind fun t207 => ((some (y204.set (x8_2 : Int).toNat (⟨(rd_T110 y204 x8_2).f0, t207⟩ : S110) : List (S110))).bind fun y208 => (if ((rd_T110 y208 x8_2).f0) > ((rd_T110 y208 x8_2).f1) then (some ((([] : List (S110))), false)) else (spec_l24Spans.l1 k2 y208 (wrap64 (x8_2 - 1)) a0_0 a0_1 l0_2 a0_3 a0_4)))) = some (r1, r2) := by first | (rw [hy204]; with_reducible exact H) | (have H2_ := (Option.bind_some _ _).symm.trans H; rw [hy204]; with_reducible exact H2_) | (have H2_ := (Option.bind_some _ _).symm.trans H; with_reducible exact H2_) | with_reducible exact H | (rw [hy204]; exact H) | exact H
      have Ny204 := zA hy204
      clear hy204
      replace H := Option.bind_eq_some_iff.mp H
      obtain ⟨t207, A870, H⟩ := H
      replace H : ((some (y204.set (x8_2 : Int).toNat (⟨(rd_T110 y204 x8_2).f0, t207⟩ : S110) : List (S110))).bind fun y208 => (if ((rd_T110 y208 x8_2).f0) > ((rd_T110 y208 x8_2).f1) then (some ((([] : List (S110))), false)) else (spec_l24Spans.l1 k2 y208 (wrap64 (x8_2 - 1)) a0_0 a0_1 l0_2 a0_3 a0_4))) = some (r1, r2) := H
      have A87 := zA A870
      clear A870
      obtain ⟨y208, hy208⟩ : ∃ y_ : List (S110), y_ = (y204.set (x8_2 : Int).toNat (⟨(rd_T110 y204 x8_2).f0, t207⟩ : S110)) := ⟨_, rfl⟩
      replace H : (if ((rd_T110 y208 x8_2).f0) > ((rd_T110 y208 x8_2).f1) then (some ((([] : List (S110))), false)) else (spec_l24Spans.l1 k2 y208 (wrap64 (x8_2 - 1)) a0_0 a0_1 l0_2 a0_3 a0_4)) = some (r1, r2) := by first | (rw [hy208]; with_reducible exact H) | (have H2_ := (Option.bind_some _ _).symm.trans H; rw [hy208]; with_reducible exact H2_) | (have H2_ := (Option.bind_some _ _).symm.trans H; with_reducible exact H2_) | with_reducible exact H | (rw [hy208]; exact H) | exact H
      have Ny208 := zA hy208
      clear hy208
      by_cases c89 : ((rd_T110 y208 x8_2).f0) > ((rd_T110 y208 x8_2).f1)
      rotate_left
      ·rw [if_neg c89] at H
       have c89b0 : decide (((rd_T110 y208 x8_2).f1) < ((rd_T110 y208 x8_2).f0)) = false := decide_eq_false c89
       clear c89
       have H' := zA H
       clear H
       try go_wp2
       have n0_ := zA (Kd.R_drew HO_4.out)
       have n1_ := zA (blk_drew BK176.out)
       have n2_ := zA (below_drew1 HB.out)
       clear HO_4 BK176 HB
       revert n0_ n1_ n2_
       intro HO_4 BK176 HB
       obtain ⟨Ao102, co102, eo102⟩ := Kd.R_slice HO_4.out
       (first | subst eo102 | (injection eo102 with f1_ f2_ f3_; have f4_ := f1_.symm; have f5_ := f3_.symm; clear f1_ f2_ f3_; subst f4_; subst f5_))
       have p200 : 0 ≤ (x8_2 : Int) := za
       have q200 : x8_2 < (x4_2.length : Int) := za
       obtain ⟨ad200, e200, hx200_0, hx200_1⟩ := at_T110 (Kd.R_reads' HO_4.out).2.2 x8_2 p200 q200
       cases e200
       replace p200 := eq_true p200
       replace q200 := eq_true q200
       have p201 : 0 ≤ ((ji81) : Int) := za
       have q201 : (ji81) < (x4_2.length : Int) := za
       obtain ⟨ad201, e201, hx201_0, hx201_1⟩ := at_T110 (Kd.R_reads' HO_4.out).2.2 (ji81) p201 q201
       obtain rfl : ad200 = ad201 := (by injection e201)
       replace p201 := eq_true p201
       replace q201 := eq_true q201
       refine start_ (n := 21) (S := fun w' => w'.cell? ⟨gb176, 0, none⟩ = some (.int .i64 a0_0) ∧ w'.cell? ⟨gb176, 1, none⟩ = some (.int .i64 a0_1) ∧ w'.cell? ⟨gb176, 2, none⟩ = some (.slice A0_2 l0_2.length c0_2) ∧ w'.cell? ⟨gb176, 3, none⟩ = some (.int .i64 a0_3) ∧ w'.cell? ⟨gb176, 4, none⟩ = some (.int .i64 a0_4) ∧ w'.cell? (ad200.add ((x8_2).toNat * 2)) = some (.int .i64 ((rd_T110 x4_2 x8_2).f0)) ∧ w'.cell? ⟨(ad200.add ((x8_2).toNat * 2)).block, (ad200.add ((x8_2).toNat * 2)).off + 1, none⟩ = some (.int .i64 ((rd_T110 x4_2 x8_2).f1)) ∧ w'.cell? (ad200.add (((ji81)).toNat * 2)) = some (.int .i64 ((rd_T110 x4_2 (ji81)).f0)) ∧ w'.cell? ⟨(ad200.add (((ji81)).toNat * 2)).block, (ad200.add (((ji81)).toNat * 2)).off + 1, none⟩ = some (.int .i64 ((rd_T110 x4_2 (ji81)).f1))) (ds := [20]) #[F,F,F,F,F,F,F,F,F,F,F,F,F,F,F,F,F,F,F,F,F] (by kernel_rfl) rfl rfl ⟨(blk_cell BK176.out 0).trans rfl, (blk_cell BK176.out 1).trans rfl, (blk_cell BK176.out 2).trans rfl, (blk_cell BK176.out 3).trans rfl, (blk_cell BK176.out 4).trans rfl, hx200_0, hx200_1, hx201_0, hx201_1⟩ (fun hHeld => ?_); refine with_tabW spec_l24Spans.tab16 spec_l24Spans.bits16 (fun HT_ HW_ => ?_)
       generalize wr.drew = w101 at HO_4 BK176 HB hx200_0 hx200_1 hx201_0 hx201_1 hHeld ⊢
       refine pure_ (i := 0) (N := some 72) (v := ?_) (a' := ?_) #[T,F,F,F,F,F,F,F,F,F,F,F,F,F,F,F,F,F,F,F,F] rfl rfl (any_of HT_.out (by kernel_rfl)) (fun _ _ _ h => h) (Or.inl ⟨by rfl, ?_⟩) ?_ ?_; rotate_left; exact zy; rotate_left; exact zput
       refine pure_ (i := 1) (N := some 73) (v := ?_) (a' := ?_) #[T,T,F,F,F,F,F,F,F,F,F,F,F,F,F,F,F,F,F,F,F] rfl rfl (any_of HT_.out (by kernel_rfl)) (fun _ _ _ h => h) (Or.inl ⟨by rfl, ?_⟩) ?_ ?_; rotate_left; exact zy; rotate_left; exact zput
       refine pure_ (i := 2) (N := some 74) (v := ?_) (a' := ?_) #[T,T,T,F,F,F,F,F,F,F,F,F,F,F,F,F,F,F,F,F,F] rfl rfl (any_of HT_.out (by kernel_rfl)) (fun _ _ _ h => h) (Or.inl ⟨by rfl, ?_⟩) ?_ ?_; rotate_left; exact zy; rotate_left; exact zput
       refine pure_ (i := 3) (N := some 75) (v := ?_) (a' := ?_) #[T,T,T,T,F,F,F,F,F,F,F,F,F,F,F,F,F,F,F,F,F] rfl rfl (any_of HT_.out (by kernel_rfl)) (fun _ _ _ h => h) (Or.inl ⟨by rfl, ?_⟩) ?_ ?_; rotate_left; exact zy; rotate_left; exact zput
       refine pure_ (i := 4) (N := some 76) (v := ?_) (a' := ?_) #[T,T,T,T,T,F,F,F,F,F,F,F,F,F,F,F,F,F,F,F,F] rfl rfl (any_of HT_.out (by kernel_rfl)) (fun _ _ _ h => h) (Or.inl ⟨by rfl, ?_⟩) ?_ ?_; rotate_left; exact zy; rotate_left; exact zput
       refine pure_ (i := 5) (N := some 77) (v := ?_) (a' := ?_) #[T,T,T,T,T,T,F,F,F,F,F,F,F,F,F,F,F,F,F,F,F] rfl rfl (any_of HT_.out (by kernel_rfl)) (fun _ _ _ h => h) (Or.inl ⟨by rfl, ?_⟩) ?_ ?_; rotate_left; exact zy; rotate_left; exact zput
       refine pure_ (i := 7) (N := some 79) (v := ?_) (a' := ?_) #[T,T,T,T,T,T,F,T,F,F,F,F,F,F,F,F,F,F,F,F,F] rfl rfl (any_of HT_.out (by kernel_rfl)) (fun _ _ _ h => h) (Or.inl ⟨by rfl, ?_⟩) ?_ ?_; rotate_left; exact zy; rotate_left; exact zput
       refine pure_ (i := 8) (N := some 80) (v := ?_) (a' := ?_) #[T,T,T,T,T,T,F,T,T,F,F,F,F,F,F,F,F,F,F,F,F] rfl rfl (any_of HT_.out (by kernel_rfl)) (fun _ _ _ h => h) (Or.inl ⟨by rfl, ?_⟩) ?_ ?_; rotate_left; exact zy; rotate_left; exact zput
       refine pure_ (i := 9) (N := some 81) (v := ?_) (a' := ?_) #[T,T,T,T,T,T,F,T,T,T,F,F,F,F,F,F,F,F,F,F,F] rfl rfl (any_of HT_.out (by kernel_rfl)) (fun _ _ _ h => h) (Or.inl ⟨by rfl, ?_⟩) ?_ ?_; rotate_left; exact zy; rotate_left; exact zput
       refine pure_ (i := 10) (N := some 82) (v := ?_) (a' := ?_) #[T,T,T,T,T,T,F,T,T,T,T,F,F,F,F,F,F,F,F,F,F] rfl rfl (any_of HT_.out (by kernel_rfl)) (fun _ _ _ h => h) (Or.inl ⟨by rfl, ?_⟩) ?_ ?_; rotate_left; exact zy; rotate_left; exact zput
       refine pure_ (i := 11) (N := some 83) (v := ?_) (a' := ?_) #[T,T,T,T,T,T,F,T,T,T,T,T,F,F,F,F,F,F,F,F,F] rfl rfl (any_of HT_.out (by kernel_rfl)) (fun _ _ _ h => h) (Or.inl ⟨by rfl, ?_⟩) ?_ ?_; rotate_left; exact zy; rotate_left; exact zput
       refine pure_ (i := 14) (N := some 86) (v := ?_) (a' := ?_) #[T,T,T,T,T,T,F,T,T,T,T,T,F,F,T,F,F,F,F,F,F] rfl rfl (any_of HT_.out (by kernel_rfl)) (fun _ _ _ h => h) (Or.inl ⟨by rfl, ?_⟩) ?_ ?_; rotate_left; exact zy; rotate_left; exact zput
       refine take_ (i := 6) (N := some 78) (v := ?_) (a' := ?_) #[T,T,T,T,T,T,T,T,T,T,T,T,F,F,T,F,F,F,F,F,F] rfl rfl (take_ofW HT_.out HW_.out (by kernel_rfl)) (fun _ _ _ h => h) (Or.inl ⟨by rfl, ?_⟩) hHeld ?_ ?_; rotate_left; exact zt9; rotate_left; exact zput
       refine take_ (i := 12) (N := some 84) (v := ?_) (a' := ?_) #[T,T,T,T,T,T,T,T,T,T,T,T,T,F,T,F,F,F,F,F,F] rfl rfl (take_ofW HT_.out HW_.out (by kernel_rfl)) (fun _ _ _ h => h) (Or.inl ⟨by rfl, ?_⟩) hHeld ?_ ?_; rotate_left; exact zt9; rotate_left; exact zput
       refine take_ (i := 13) (N := some 85) (v := ?_) (a' := ?_) #[T,T,T,T,T,T,T,T,T,T,T,T,T,T,T,F,F,F,F,F,F] rfl rfl (take_ofW HT_.out HW_.out (by kernel_rfl)) (fun _ _ _ h => h) (Or.inl ⟨by rfl, ?_⟩) hHeld ?_ ?_; rotate_left; exact zt9; rotate_left; exact zput
       refine one_ (i := 15) (N := some 87) #[T,T,T,T,T,T,T,T,T,T,T,T,T,T,T,T,F,F,F,F,F] rfl rfl (one_of HT_.out (by kernel_rfl)) (by decide) (fun K hK => ?_)
       refine goes_ Try.func154 (by kernel_rfl) rfl #[.agg #[.int .i64 a0_0, .int .i64 a0_1, .slice A0_2 l0_2.length c0_2, .int .i64 a0_3, .int .i64 a0_4], .int .i64 x8_2] (by rfl) rfl rfl zl ?_
       with_reducible refine (spec_l23Most.calls a0_0 a0_1 _ _ l0_2 a0_3 a0_4 x8_2 t202 _ ?side1 ?side2 A84.out).mono ?_
       (case side1 => exact zC HR0_2 HB)
       (case side2 => exact HC0_2.out)
       rintro e w103 ⟨rfl, hb⟩
       have HS5_ := (hb.cell (World.block_lt_of_cell? _ _ (hHeld.2.2.2.2.2.1))).trans (hHeld.2.2.2.2.2.1)
       have HS6_ := (hb.cell (World.block_lt_of_cell? _ _ (hHeld.2.2.2.2.2.2.1))).trans (hHeld.2.2.2.2.2.2.1)
       have HS7_ := (hb.cell (World.block_lt_of_cell? _ _ (hHeld.2.2.2.2.2.2.2.1))).trans (hHeld.2.2.2.2.2.2.2.1)
       have HS8_ := (hb.cell (World.block_lt_of_cell? _ _ (hHeld.2.2.2.2.2.2.2.2))).trans (hHeld.2.2.2.2.2.2.2.2)
       refine ⟨_, rfl, ?_⟩
       have n0_ := zA (Kd.R_below (zr HO_4) hb)
       have n1_ := zb BK176 hb
       have n2_ := zA (below_step (zs1 HB GE176) hb)
       clear HO_4 BK176 HB
       revert n0_ n1_ n2_
       intro HO_4 BK176 HB
       (try clear hb)
       (try clear hb2)
       (try clear hk)
       (try clear hi)
       refine hK.out _ _ ⟨(blk_cell BK176.out 0).trans rfl, (blk_cell BK176.out 1).trans rfl, (blk_cell BK176.out 2).trans rfl, (blk_cell BK176.out 3).trans rfl, (blk_cell BK176.out 4).trans rfl, HS5_, HS6_, HS7_, HS8_⟩ (fun hHeld => ?_)
       clear hK K
       refine norm_ (a' := ?_) ?_ ?_
       rotate_left
       ·show Act.put _ (some 87) _ = _
        simp only [Act.put, List.setIfInBounds_toArray, List.set_cons_zero, List.set_cons_succ, i64_w, i32_w]
        rfl
       refine pure_ (i := 16) (N := some 88) (v := ?_) (a' := ?_) #[T,T,T,T,T,T,T,T,T,T,T,T,T,T,T,T,T,F,F,F,F] rfl rfl (any_of HT_.out (by kernel_rfl)) (fun _ _ _ h => h) (Or.inl ⟨by rfl, ?_⟩) ?_ ?_; rotate_left; exact zy; rotate_left; exact zput
       refine one_ (i := 17) (N := some 89) #[T,T,T,T,T,T,T,T,T,T,T,T,T,T,T,T,T,T,F,F,F] rfl rfl (one_of HT_.out (by kernel_rfl)) (by decide) (fun K hK => ?_)
       refine goes_ Try.func130 (by kernel_rfl) rfl #[.int .i64 ((rd_T110 x4_2 x8_2).f0), .int .i64 (wrap64 (((rd_T110 x4_2 (ji81)).f0) - t202))] (by rfl) rfl rfl (by (try simp only [List.map_toArray, List.map_cons, List.map_nil]); first | done | (simp only [hji81]; rfl) | rfl | (simp only [List.length_drop, List.length_take]; rfl)) ?_
       with_reducible refine (spec_l21Max.calls ((rd_T110 x4_2 x8_2).f0) (wrap64 (((rd_T110 x4_2 (ji81)).f0) - t202)) t203 _ A85.out).mono ?_
       rintro e w' ⟨rfl, ⟨nd, rfl⟩⟩
       refine ⟨_, rfl, ?_⟩
       have p86 : 0 ≤ (x8_2 : Int) := za
       have q86 : (x8_2 : Int) < ((x4_2.length : Int) : Int) := za
       obtain ⟨go86, co86, eo86, gb86, gl86, cl86, HG86⟩ := Kd.R_form HO_4.out (by omega)
       (first | cases eo86 | (injection eo86 with ea_ en_ ec_; (first | subst ea_ | (injection ea_ with ea_; subst ea_)); subst ec_; clear en_))
       have GB86 := zA gb86
       have GG86 := zA HG86
       clear gb86 gl86 HG86
       (first | simp only [add_plain] at hx200_0 | skip)
       (first | simp only [add_plain] at hx200_1 | skip)
       (first | simp only [add_plain] at hx201_0 | skip)
       (first | simp only [add_plain] at hx201_1 | skip)
       obtain ⟨ce86, hcl86, hM86, hcc86, hfr86⟩ := Kd.R_elem HO_4.out z110 (x8_2 : Int) p86 q86
       obtain rfl := k110_openM hM86
       have hx86_0 : World.cell? _ ⟨go86, (x8_2 : Int).toNat * 2, none⟩ = some (.int .i64 ((rd_T110 x4_2 x8_2).f0)) := hcc86 0 _ rfl
       have hx86_1 : World.cell? _ ⟨go86, (x8_2 : Int).toNat * 2 + 1, none⟩ = some (.int .i64 ((rd_T110 x4_2 x8_2).f1)) := hcc86 1 _ rfl
       have hf86_0 : World.frozen? _ ⟨go86, (x8_2 : Int).toNat * 2, none⟩ = false := hfr86 0
       have hf86_1 : World.frozen? _ ⟨go86, (x8_2 : Int).toNat * 2 + 1, none⟩ = false := hfr86 1
       clear hcl86 hcc86 hfr86 hM86
       replace p86 := eq_true p86
       replace q86 := eq_true q86
       obtain ⟨ce104, hcl104, hM104, hcc104, hfr104⟩ := Kd.R_elem HO_4.out z110 (x8_2 : Int) (za) (by have h_ : (x8_2 : Int) < ((x4_2.length : Int) : Int) := za; first | exact h_ | (have e_ := (Kd.R_reads' HO_4.out).1; omega) | simpa using h_)
       obtain rfl := k110_openM hM104
       have HP104 := (Kd.R_seg HO_4.out (x8_2 : Int) (za) (by have h_ : (x8_2 : Int) < ((x4_2.length : Int) : Int) := za; first | exact h_ | (have e_ := (Kd.R_reads' HO_4.out).1; omega) | simpa using h_) (seg := [.int .i64 t203]) (j := 0) hcl104 hcc104 (show 1 ≤ 2 from by decide) (x' := (⟨t203, (rd_T110 x4_2 x8_2).f1⟩ : S110)) (k110_mkM _ _ _ (⟨t203, (rd_T110 x4_2 x8_2).f1⟩ : S110) ) (fun _ hk => hk)).1
       rw [← Ny204.out] at HP104
       have HQ104 := zA HP104
       clear hcl104 hcc104 hfr104 hM104 HP104
       refine hK.out _ _ ⟨(blk_cell BK176.out 0).trans rfl, (blk_cell BK176.out 1).trans rfl, (blk_cell BK176.out 2).trans rfl, (blk_cell BK176.out 3).trans rfl, (blk_cell BK176.out 4).trans rfl, hHeld.2.2.2.2.2.1, hHeld.2.2.2.2.2.2.1, hHeld.2.2.2.2.2.2.2.1, hHeld.2.2.2.2.2.2.2.2⟩ (fun hHeld => ?_)
       clear hK K
       refine norm_ (a' := ?_) ?_ ?_
       rotate_left
       ·show Act.put _ (some 89) _ = _
        simp only [Act.put, List.setIfInBounds_toArray, List.set_cons_zero, List.set_cons_succ, i64_w, i32_w]
        rfl
       refine pure_ (i := 18) (N := some 90) (v := ?_) (a' := ?_) #[T,T,T,T,T,T,T,T,T,T,T,T,T,T,T,T,T,T,T,F,F] rfl rfl (any_of HT_.out (by kernel_rfl)) (fun _ _ _ h => h) (Or.inl ⟨by rfl, ?_⟩) ?_ ?_; rotate_left; exact zy; rotate_left; exact zput
       refine pure_ (i := 19) (N := some 91) (v := ?_) (a' := ?_) #[T,T,T,T,T,T,T,T,T,T,T,T,T,T,T,T,T,T,T,T,F] rfl rfl (any_of HT_.out (by kernel_rfl)) (fun _ _ _ h => h) (Or.inl ⟨by rfl, ?_⟩) ?_ ?_; rotate_left; exact zy; rotate_left; exact zput
       refine last_ (i := 20) (N := none) #[T,T,T,T,T,T,T,T,T,T,T,T,T,T,T,T,T,T,T,T,T] rfl rfl (one_of HT_.out (by kernel_rfl)) (by decide) (fun K hK => ?_)
       refine skip_ (w1 := ?_) (by rfl) rfl ?_ ?_
       rotate_left
       ·go_simp
        rfl
       refine hK.out _ _ ?_
       clear hK K
       refine done_ (done_of HT_.out (by kernel_rfl)) ?_
       try go_wp2
       have n0_ : Aside0 (Kd.R k110 110 (w103.setCell ⟨go86, (x8_2 : Int).toNat * 2, none⟩ (.int .i64 t203)) w.heap.size (fun _ => True) (.slice (some ⟨go86, 0, none⟩) x4_2.length co102) y204) := ⟨zr HQ104⟩
       have n1_ : Aside0 ((w103.setCell ⟨go86, (x8_2 : Int).toNat * 2, none⟩ (.int .i64 t203)).heap[gb176]? = some (.cells #[.int .i64 a0_0, .int .i64 a0_1, .slice A0_2 l0_2.length c0_2, .int .i64 a0_3, .int .i64 a0_4] 68 (0, 0))) := ⟨by (with_reducible repeat (first | refine blk_drewN ?_ _ | refine blk_drew ?_ | refine blk_alloc ?_ _)); refine blk_far ?_ (by have h_ := Kd.R_ne HO_4.out BK176.out (by decide); intro e_; exact h_ (by rw [e_]; rfl)) _; (with_reducible repeat (first | refine blk_drewN ?_ _ | refine blk_drew ?_ | refine blk_alloc ?_ _)); exact BK176.out⟩
       have n2_ : Aside0 (Below w.heap.size w (w103.setCell ⟨go86, (x8_2 : Int).toNat * 2, none⟩ (.int .i64 t203))) := ⟨by repeat (first | (with_reducible first | exact HB.out | apply below_alloc | apply pw_below_drewN | apply below_drew1 | refine below_set ?_ GB86.out | refine below_set ?_ GE176.out) | exact HB.out)⟩
       (try clear HO_4)
       (try clear BK176)
       (try clear HB)
       generalize (w103.setCell ⟨go86, (x8_2 : Int).toNat * 2, none⟩ (.int .i64 t203)) = w105 at n0_ n1_ n2_ ⊢
       have HO_4 := n0_
       have BK176 := n1_
       have HB := n2_
       clear n0_ n1_ n2_
       (try (rw [drewN_self w105]; generalize hq_ : World.drewN w105 _ = w105; have n0_ : Aside0 (Kd.R k110 110 w105 w.heap.size (fun _ => True) (.slice (some ⟨go86, 0, none⟩) x4_2.length co102) y204) := ⟨by rw [← hq_]; exact (zr HO_4)⟩; have n1_ : Aside0 (w105.heap[gb176]? = some (.cells #[.int .i64 a0_0, .int .i64 a0_1, .slice A0_2 l0_2.length c0_2, .int .i64 a0_3, .int .i64 a0_4] 68 (0, 0))) := ⟨by rw [← hq_]; exact (zh BK176)⟩; have n2_ : Aside0 (Below w.heap.size w w105) := ⟨by rw [← hq_]; exact (zs1 HB GE176)⟩; clear HO_4 BK176 HB hq_; have HO_4 := n0_; have BK176 := n1_; have HB := n2_; clear n0_ n1_ n2_))
       have n0_ := zA (Kd.R_drew HO_4.out)
       have n1_ := zA (blk_drew BK176.out)
       have n2_ := zA (below_drew1 HB.out)
       clear HO_4 BK176 HB
       revert n0_ n1_ n2_
       intro HO_4 BK176 HB
       have p205 : 0 ≤ (x8_2 : Int) := za
       have q205 : x8_2 < (y204.length : Int) := (by have h_ : (x8_2 : Int) < ((x4_2.length : Int) : Int) := za; first | (have e_ := (Kd.R_reads' HO_4.out).1; omega) | simpa only [Ny204.out, List.length_set] using h_)
       have ql205 : ((x8_2 : Int) < ((x4_2.length : Int) : Int)) = True := eq_true (za)
       obtain ⟨ad205, e205, hx205_0, hx205_1⟩ := at_T110 (Kd.R_reads' HO_4.out).2.2 x8_2 p205 q205
       obtain rfl : (⟨go86, 0, none⟩ : Addr) = ad205 := (by injection e205)
       (first | simp only [add_plain] at hx205_0 | simp only [add_at] at hx205_0 | simp only [Addr.add, Nat.zero_add] at hx205_0 | skip)
       (first | simp only [add_plain] at hx205_1 | simp only [add_at] at hx205_1 | simp only [Addr.add, Nat.zero_add] at hx205_1 | skip)
       replace p205 := eq_true p205
       replace q205 := eq_true q205
       have p206 : 0 ≤ ((ji81) : Int) := za
       have q206 : (ji81) < (y204.length : Int) := (by have h_ : ((ji81) : Int) < ((x4_2.length : Int) : Int) := za; first | (have e_ := (Kd.R_reads' HO_4.out).1; omega) | simpa only [Ny204.out, List.length_set] using h_)
       have ql206 : (((ji81) : Int) < ((x4_2.length : Int) : Int)) = True := eq_true (za)
       obtain ⟨ad206, e206, hx206_0, hx206_1⟩ := at_T110 (Kd.R_reads' HO_4.out).2.2 (ji81) p206 q206
       obtain rfl : (⟨go86, 0, none⟩ : Addr) = ad206 := (by injection e206)
       (first | simp only [add_plain] at hx206_0 | simp only [add_at] at hx206_0 | simp only [Addr.add, Nat.zero_add] at hx206_0 | skip)
       (first | simp only [add_plain] at hx206_1 | simp only [add_at] at hx206_1 | simp only [Addr.add, Nat.zero_add] at hx206_1 | skip)
       replace p206 := eq_true p206
       replace q206 := eq_true q206
       refine start_ (n := 21) (S := fun w' => w'.cell? ⟨gb176, 0, none⟩ = some (.int .i64 a0_0) ∧ w'.cell? ⟨gb176, 1, none⟩ = some (.int .i64 a0_1) ∧ w'.cell? ⟨gb176, 2, none⟩ = some (.slice A0_2 l0_2.length c0_2) ∧ w'.cell? ⟨gb176, 3, none⟩ = some (.int .i64 a0_3) ∧ w'.cell? ⟨gb176, 4, none⟩ = some (.int .i64 a0_4) ∧ w'.cell? ⟨go86, (x8_2).toNat * 2, none⟩ = some (.int .i64 ((rd_T110 y204 x8_2).f0)) ∧ w'.cell? ⟨go86, (x8_2).toNat * 2 + 1, none⟩ = some (.int .i64 ((rd_T110 y204 x8_2).f1)) ∧ w'.cell? ⟨go86, ((ji81)).toNat * 2, none⟩ = some (.int .i64 ((rd_T110 y204 (ji81)).f0)) ∧ w'.cell? ⟨go86, ((ji81)).toNat * 2 + 1, none⟩ = some (.int .i64 ((rd_T110 y204 (ji81)).f1))) (ds := [20]) #[F,F,F,F,F,F,F,F,F,F,F,F,F,F,F,F,F,F,F,F,F] (by kernel_rfl) rfl rfl ⟨(blk_cell BK176.out 0).trans rfl, (blk_cell BK176.out 1).trans rfl, (blk_cell BK176.out 2).trans rfl, (blk_cell BK176.out 3).trans rfl, (blk_cell BK176.out 4).trans rfl, hx205_0, hx205_1, hx206_0, hx206_1⟩ (fun hHeld => ?_); refine with_tabW spec_l24Spans.tab17 spec_l24Spans.bits17 (fun HT_ HW_ => ?_)
       generalize w105.drew = w106 at HO_4 BK176 HB HQ104 hx205_0 hx205_1 hx206_0 hx206_1 hHeld ⊢
       refine pure_ (i := 0) (N := some 92) (v := ?_) (a' := ?_) #[T,F,F,F,F,F,F,F,F,F,F,F,F,F,F,F,F,F,F,F,F] rfl rfl (any_of HT_.out (by kernel_rfl)) (fun _ _ _ h => h) (Or.inl ⟨by rfl, ?_⟩) ?_ ?_; rotate_left; exact zy; rotate_left; exact zput
       refine pure_ (i := 1) (N := some 93) (v := ?_) (a' := ?_) #[T,T,F,F,F,F,F,F,F,F,F,F,F,F,F,F,F,F,F,F,F] rfl rfl (any_of HT_.out (by kernel_rfl)) (fun _ _ _ h => h) (Or.inl ⟨by rfl, ?_⟩) ?_ ?_; rotate_left; exact zy; rotate_left; exact zput
       refine pure_ (i := 2) (N := some 94) (v := ?_) (a' := ?_) #[T,T,T,F,F,F,F,F,F,F,F,F,F,F,F,F,F,F,F,F,F] rfl rfl (any_of HT_.out (by kernel_rfl)) (fun _ _ _ h => h) (Or.inl ⟨by rfl, ?_⟩) ?_ ?_; rotate_left; exact zy; rotate_left; exact zput
       refine pure_ (i := 3) (N := some 95) (v := ?_) (a' := ?_) #[T,T,T,T,F,F,F,F,F,F,F,F,F,F,F,F,F,F,F,F,F] rfl rfl (any_of HT_.out (by kernel_rfl)) (fun _ _ _ h => h) (Or.inl ⟨by rfl, ?_⟩) ?_ ?_; rotate_left; exact zy; rotate_left; exact zput
       refine pure_ (i := 4) (N := some 96) (v := ?_) (a' := ?_) #[T,T,T,T,T,F,F,F,F,F,F,F,F,F,F,F,F,F,F,F,F] rfl rfl (any_of HT_.out (by kernel_rfl)) (fun _ _ _ h => h) (Or.inl ⟨by rfl, ?_⟩) ?_ ?_; rotate_left; exact zy; rotate_left; exact zput
       refine pure_ (i := 5) (N := some 97) (v := ?_) (a' := ?_) #[T,T,T,T,T,T,F,F,F,F,F,F,F,F,F,F,F,F,F,F,F] rfl rfl (any_of HT_.out (by kernel_rfl)) (fun _ _ _ h => h) (Or.inl ⟨by rfl, ?_⟩) ?_ ?_; rotate_left; exact zy; rotate_left; exact zput
       refine pure_ (i := 7) (N := some 99) (v := ?_) (a' := ?_) #[T,T,T,T,T,T,F,T,F,F,F,F,F,F,F,F,F,F,F,F,F] rfl rfl (any_of HT_.out (by kernel_rfl)) (fun _ _ _ h => h) (Or.inl ⟨by rfl, ?_⟩) ?_ ?_; rotate_left; exact zy; rotate_left; exact zput
       refine pure_ (i := 8) (N := some 100) (v := ?_) (a' := ?_) #[T,T,T,T,T,T,F,T,T,F,F,F,F,F,F,F,F,F,F,F,F] rfl rfl (any_of HT_.out (by kernel_rfl)) (fun _ _ _ h => h) (Or.inl ⟨by rfl, ?_⟩) ?_ ?_; rotate_left; exact zy; rotate_left; exact zput
       refine pure_ (i := 9) (N := some 101) (v := ?_) (a' := ?_) #[T,T,T,T,T,T,F,T,T,T,F,F,F,F,F,F,F,F,F,F,F] rfl rfl (any_of HT_.out (by kernel_rfl)) (fun _ _ _ h => h) (Or.inl ⟨by rfl, ?_⟩) ?_ ?_; rotate_left; exact zy; rotate_left; exact zput
       refine pure_ (i := 10) (N := some 102) (v := ?_) (a' := ?_) #[T,T,T,T,T,T,F,T,T,T,T,F,F,F,F,F,F,F,F,F,F] rfl rfl (any_of HT_.out (by kernel_rfl)) (fun _ _ _ h => h) (Or.inl ⟨by rfl, ?_⟩) ?_ ?_; rotate_left; exact zy; rotate_left; exact zput
       refine pure_ (i := 11) (N := some 103) (v := ?_) (a' := ?_) #[T,T,T,T,T,T,F,T,T,T,T,T,F,F,F,F,F,F,F,F,F] rfl rfl (any_of HT_.out (by kernel_rfl)) (fun _ _ _ h => h) (Or.inl ⟨by rfl, ?_⟩) ?_ ?_; rotate_left; exact zy; rotate_left; exact zput
       refine pure_ (i := 13) (N := some 105) (v := ?_) (a' := ?_) #[T,T,T,T,T,T,F,T,T,T,T,T,F,T,F,F,F,F,F,F,F] rfl rfl (any_of HT_.out (by kernel_rfl)) (fun _ _ _ h => h) (Or.inl ⟨by rfl, ?_⟩) ?_ ?_; rotate_left; exact zy; rotate_left; exact zput
       refine pure_ (i := 14) (N := some 106) (v := ?_) (a' := ?_) #[T,T,T,T,T,T,F,T,T,T,T,T,F,T,T,F,F,F,F,F,F] rfl rfl (any_of HT_.out (by kernel_rfl)) (fun _ _ _ h => h) (Or.inl ⟨by rfl, ?_⟩) ?_ ?_; rotate_left; exact zy; rotate_left; exact zput
       refine take_ (i := 6) (N := some 98) (v := ?_) (a' := ?_) #[T,T,T,T,T,T,T,T,T,T,T,T,F,T,T,F,F,F,F,F,F] rfl rfl (take_ofW HT_.out HW_.out (by kernel_rfl)) (fun _ _ _ h => h) (Or.inl ⟨by rfl, ?_⟩) hHeld ?_ ?_; rotate_left; exact zt9; rotate_left; exact zput
       refine take_ (i := 12) (N := some 104) (v := ?_) (a' := ?_) #[T,T,T,T,T,T,T,T,T,T,T,T,T,T,T,F,F,F,F,F,F] rfl rfl (take_ofW HT_.out HW_.out (by kernel_rfl)) (fun _ _ _ h => h) (Or.inl ⟨by rfl, ?_⟩) hHeld ?_ ?_; rotate_left; exact zt9; rotate_left; exact zput
       refine take_ (i := 15) (N := some 107) (v := ?_) (a' := ?_) #[T,T,T,T,T,T,T,T,T,T,T,T,T,T,T,T,F,F,F,F,F] rfl rfl (take_ofW HT_.out HW_.out (by kernel_rfl)) (fun _ _ _ h => h) (Or.inl ⟨by rfl, ?_⟩) hHeld ?_ ?_; rotate_left; exact zt9; rotate_left; exact zput
       refine pure_ (i := 16) (N := some 108) (v := ?_) (a' := ?_) #[T,T,T,T,T,T,T,T,T,T,T,T,T,T,T,T,T,F,F,F,F] rfl rfl (any_of HT_.out (by kernel_rfl)) (fun _ _ _ h => h) (Or.inl ⟨by rfl, ?_⟩) ?_ ?_; rotate_left; exact zy; rotate_left; exact zput
       refine one_ (i := 17) (N := some 109) #[T,T,T,T,T,T,T,T,T,T,T,T,T,T,T,T,T,T,F,F,F] rfl rfl (one_of HT_.out (by kernel_rfl)) (by decide) (fun K hK => ?_)
       refine goes_ Try.func98 (by kernel_rfl) rfl #[.int .i64 ((rd_T110 y204 x8_2).f1), .int .i64 (wrap64 (((rd_T110 y204 (ji81)).f1) - a0_0))] (by rfl) rfl rfl (by (try simp only [List.map_toArray, List.map_cons, List.map_nil]); first | done | (simp only [hji81]; rfl) | rfl | (simp only [List.length_drop, List.length_take]; rfl)) ?_
       with_reducible refine (spec_l21Min.calls ((rd_T110 y204 x8_2).f1) (wrap64 (((rd_T110 y204 (ji81)).f1) - a0_0)) t207 _ A87.out).mono ?_
       rintro e w' ⟨rfl, ⟨nd, rfl⟩⟩
       refine ⟨_, rfl, ?_⟩
       have p88 : 0 ≤ (x8_2 : Int) := za
       have q88 : (x8_2 : Int) < ((x4_2.length : Int) : Int) := za
       obtain ⟨ce88, hcl88, hM88, hcc88, hfr88⟩ := Kd.R_elem HO_4.out z110 (x8_2 : Int) p88 q88
       obtain rfl := k110_openM hM88
       have hx88_0 : World.cell? _ ⟨go86, (x8_2 : Int).toNat * 2, none⟩ = some (.int .i64 ((rd_T110 y204 x8_2).f0)) := hcc88 0 _ rfl
       have hx88_1 : World.cell? _ ⟨go86, (x8_2 : Int).toNat * 2 + 1, none⟩ = some (.int .i64 ((rd_T110 y204 x8_2).f1)) := hcc88 1 _ rfl
       have hf88_0 : World.frozen? _ ⟨go86, (x8_2 : Int).toNat * 2, none⟩ = false := hfr88 0
       have hf88_1 : World.frozen? _ ⟨go86, (x8_2 : Int).toNat * 2 + 1, none⟩ = false := hfr88 1
       clear hcl88 hcc88 hfr88 hM88
       replace p88 := eq_true p88
       replace q88 := eq_true q88
       obtain ⟨ce107, hcl107, hM107, hcc107, hfr107⟩ := Kd.R_elem HO_4.out z110 (x8_2 : Int) (za) (by have h_ : (x8_2 : Int) < ((x4_2.length : Int) : Int) := za; first | exact h_ | (have e_ := (Kd.R_reads' HO_4.out).1; omega) | simpa using h_)
       obtain rfl := k110_openM hM107
       have HP107 := (Kd.R_seg HO_4.out (x8_2 : Int) (za) (by have h_ : (x8_2 : Int) < ((x4_2.length : Int) : Int) := za; first | exact h_ | (have e_ := (Kd.R_reads' HO_4.out).1; omega) | simpa using h_) (seg := [.int .i64 t207]) (j := 1) hcl107 hcc107 (show 2 ≤ 2 from by decide) (x' := (⟨(rd_T110 y204 x8_2).f0, t207⟩ : S110)) (k110_mkM _ _ _ (⟨(rd_T110 y204 x8_2).f0, t207⟩ : S110) ) (fun _ hk => hk)).1
       rw [← Ny208.out] at HP107
       have HQ107 := zA HP107
       clear hcl107 hcc107 hfr107 hM107 HP107
       refine hK.out _ _ ⟨(blk_cell BK176.out 0).trans rfl, (blk_cell BK176.out 1).trans rfl, (blk_cell BK176.out 2).trans rfl, (blk_cell BK176.out 3).trans rfl, (blk_cell BK176.out 4).trans rfl, hHeld.2.2.2.2.2.1, hHeld.2.2.2.2.2.2.1, hHeld.2.2.2.2.2.2.2.1, hHeld.2.2.2.2.2.2.2.2⟩ (fun hHeld => ?_)
       clear hK K
       refine norm_ (a' := ?_) ?_ ?_
       rotate_left
       ·show Act.put _ (some 109) _ = _
        simp only [Act.put, List.setIfInBounds_toArray, List.set_cons_zero, List.set_cons_succ, i64_w, i32_w]
        rfl
       refine pure_ (i := 18) (N := some 110) (v := ?_) (a' := ?_) #[T,T,T,T,T,T,T,T,T,T,T,T,T,T,T,T,T,T,T,F,F] rfl rfl (any_of HT_.out (by kernel_rfl)) (fun _ _ _ h => h) (Or.inl ⟨by rfl, ?_⟩) ?_ ?_; rotate_left; exact zy; rotate_left; exact zput
       refine pure_ (i := 19) (N := some 111) (v := ?_) (a' := ?_) #[T,T,T,T,T,T,T,T,T,T,T,T,T,T,T,T,T,T,T,T,F] rfl rfl (any_of HT_.out (by kernel_rfl)) (fun _ _ _ h => h) (Or.inl ⟨by rfl, ?_⟩) ?_ ?_; rotate_left; exact zy; rotate_left; exact zput
       refine last_ (i := 20) (N := none) #[T,T,T,T,T,T,T,T,T,T,T,T,T,T,T,T,T,T,T,T,T] rfl rfl (one_of HT_.out (by kernel_rfl)) (by decide) (fun K hK => ?_)
       refine skip_ (w1 := ?_) (by rfl) rfl ?_ ?_
       rotate_left
       ·go_simp
        rfl
       refine hK.out _ _ ?_
       clear hK K
       refine done_ (done_of HT_.out (by kernel_rfl)) ?_
       try go_wp2
       have n0_ : Aside0 (Kd.R k110 110 (w106.setCell ⟨go86, (x8_2 : Int).toNat * 2 + 1, none⟩ (.int .i64 t207)) w.heap.size (fun _ => True) (.slice (some ⟨go86, 0, none⟩) x4_2.length co102) y208) := ⟨zr HQ107⟩
       have n1_ : Aside0 ((w106.setCell ⟨go86, (x8_2 : Int).toNat * 2 + 1, none⟩ (.int .i64 t207)).heap[gb176]? = some (.cells #[.int .i64 a0_0, .int .i64 a0_1, .slice A0_2 l0_2.length c0_2, .int .i64 a0_3, .int .i64 a0_4] 68 (0, 0))) := ⟨by (with_reducible repeat (first | refine blk_drewN ?_ _ | refine blk_drew ?_ | refine blk_alloc ?_ _)); refine blk_far ?_ (by have h_ := Kd.R_ne HO_4.out BK176.out (by decide); intro e_; exact h_ (by rw [e_]; rfl)) _; (with_reducible repeat (first | refine blk_drewN ?_ _ | refine blk_drew ?_ | refine blk_alloc ?_ _)); exact BK176.out⟩
       have n2_ : Aside0 (Below w.heap.size w (w106.setCell ⟨go86, (x8_2 : Int).toNat * 2 + 1, none⟩ (.int .i64 t207))) := ⟨by repeat (first | (with_reducible first | exact HB.out | apply below_alloc | apply pw_below_drewN | apply below_drew1 | refine below_set ?_ GB86.out | refine below_set ?_ GE176.out) | exact HB.out)⟩
       (try clear HO_4)
       (try clear BK176)
       (try clear HB)
       generalize (w106.setCell ⟨go86, (x8_2 : Int).toNat * 2 + 1, none⟩ (.int .i64 t207)) = w108 at n0_ n1_ n2_ ⊢
       have HO_4 := n0_
       have BK176 := n1_
       have HB := n2_
       clear n0_ n1_ n2_
       (try (rw [drewN_self w108]; generalize hq_ : World.drewN w108 _ = w108; have n0_ : Aside0 (Kd.R k110 110 w108 w.heap.size (fun _ => True) (.slice (some ⟨go86, 0, none⟩) x4_2.length co102) y208) := ⟨by rw [← hq_]; exact (zr HO_4)⟩; have n1_ : Aside0 (w108.heap[gb176]? = some (.cells #[.int .i64 a0_0, .int .i64 a0_1, .slice A0_2 l0_2.length c0_2, .int .i64 a0_3, .int .i64 a0_4] 68 (0, 0))) := ⟨by rw [← hq_]; exact (zh BK176)⟩; have n2_ : Aside0 (Below w.heap.size w w108) := ⟨by rw [← hq_]; exact (zs1 HB GE176)⟩; clear HO_4 BK176 HB hq_; have HO_4 := n0_; have BK176 := n1_; have HB := n2_; clear n0_ n1_ n2_))
       have n0_ := zA (Kd.R_drew HO_4.out)
       have n1_ := zA (blk_drew BK176.out)
       have n2_ := zA (below_drew1 HB.out)
       clear HO_4 BK176 HB
       revert n0_ n1_ n2_
       intro HO_4 BK176 HB
       have p209 : 0 ≤ (x8_2 : Int) := za
       have q209 : x8_2 < (y208.length : Int) := (by have h_ : (x8_2 : Int) < ((x4_2.length : Int) : Int) := za; first | (have e_ := (Kd.R_reads' HO_4.out).1; omega) | simpa only [Ny204.out, Ny208.out, List.length_set] using h_)
       have ql209 : ((x8_2 : Int) < ((x4_2.length : Int) : Int)) = True := eq_true (za)
       obtain ⟨ad209, e209, hx209_0, hx209_1⟩ := at_T110 (Kd.R_reads' HO_4.out).2.2 x8_2 p209 q209
       obtain rfl : (⟨go86, 0, none⟩ : Addr) = ad209 := (by injection e209)
       (first | simp only [add_plain] at hx209_0 | simp only [add_at] at hx209_0 | simp only [Addr.add, Nat.zero_add] at hx209_0 | skip)
       (first | simp only [add_plain] at hx209_1 | simp only [add_at] at hx209_1 | simp only [Addr.add, Nat.zero_add] at hx209_1 | skip)
       replace p209 := eq_true p209
       replace q209 := eq_true q209
       have p210 : 0 ≤ (x8_2 : Int) := za
       have q210 : x8_2 < (y208.length : Int) := (by have h_ : (x8_2 : Int) < ((x4_2.length : Int) : Int) := za; first | (have e_ := (Kd.R_reads' HO_4.out).1; omega) | simpa only [Ny204.out, Ny208.out, List.length_set] using h_)
       have ql210 : ((x8_2 : Int) < ((x4_2.length : Int) : Int)) = True := eq_true (za)
       obtain ⟨ad210, e210, hx210_0, hx210_1⟩ := at_T110 (Kd.R_reads' HO_4.out).2.2 x8_2 p210 q210
       obtain rfl : (⟨go86, 0, none⟩ : Addr) = ad210 := (by injection e210)
       (first | simp only [add_plain] at hx210_0 | simp only [add_at] at hx210_0 | simp only [Addr.add, Nat.zero_add] at hx210_0 | skip)
       (first | simp only [add_plain] at hx210_1 | simp only [add_at] at hx210_1 | simp only [Addr.add, Nat.zero_add] at hx210_1 | skip)
       replace p210 := eq_true p210
       replace q210 := eq_true q210
       refine start_ (n := 11) (S := fun w' => w'.cell? ⟨go86, (x8_2).toNat * 2, none⟩ = some (.int .i64 ((rd_T110 y208 x8_2).f0)) ∧ w'.cell? ⟨go86, (x8_2).toNat * 2 + 1, none⟩ = some (.int .i64 ((rd_T110 y208 x8_2).f1)) ∧ w'.cell? ⟨go86, (x8_2).toNat * 2, none⟩ = some (.int .i64 ((rd_T110 y208 x8_2).f0)) ∧ w'.cell? ⟨go86, (x8_2).toNat * 2 + 1, none⟩ = some (.int .i64 ((rd_T110 y208 x8_2).f1))) (ds := []) #[F,F,F,F,F,F,F,F,F,F,F] (by kernel_rfl) rfl rfl ⟨hx209_0, hx209_1, hx210_0, hx210_1⟩ (fun hHeld => ?_); refine with_tabW spec_l24Spans.tab18 spec_l24Spans.bits18 (fun HT_ HW_ => ?_)
       generalize w108.drew = w109 at HO_4 BK176 HB HQ107 hx209_0 hx209_1 hx210_0 hx210_1 hHeld ⊢
       refine pure_ (i := 0) (N := some 112) (v := ?_) (a' := ?_) #[T,F,F,F,F,F,F,F,F,F,F] rfl rfl (any_of HT_.out (by kernel_rfl)) (fun _ _ _ h => h) (Or.inl ⟨by rfl, ?_⟩) ?_ ?_; rotate_left; exact zy; rotate_left; exact zput
       refine pure_ (i := 1) (N := some 113) (v := ?_) (a' := ?_) #[T,T,F,F,F,F,F,F,F,F,F] rfl rfl (any_of HT_.out (by kernel_rfl)) (fun _ _ _ h => h) (Or.inl ⟨by rfl, ?_⟩) ?_ ?_; rotate_left; exact zy; rotate_left; exact zput
       refine pure_ (i := 2) (N := some 114) (v := ?_) (a' := ?_) #[T,T,T,F,F,F,F,F,F,F,F] rfl rfl (any_of HT_.out (by kernel_rfl)) (fun _ _ _ h => h) (Or.inl ⟨by rfl, ?_⟩) ?_ ?_; rotate_left; exact zy; rotate_left; exact zput
       refine pure_ (i := 3) (N := some 115) (v := ?_) (a' := ?_) #[T,T,T,T,F,F,F,F,F,F,F] rfl rfl (any_of HT_.out (by kernel_rfl)) (fun _ _ _ h => h) (Or.inl ⟨by rfl, ?_⟩) ?_ ?_; rotate_left; exact zy; rotate_left; exact zput
       refine pure_ (i := 5) (N := some 117) (v := ?_) (a' := ?_) #[T,T,T,T,F,T,F,F,F,F,F] rfl rfl (any_of HT_.out (by kernel_rfl)) (fun _ _ _ h => h) (Or.inl ⟨by rfl, ?_⟩) ?_ ?_; rotate_left; exact zy; rotate_left; exact zput
       refine pure_ (i := 6) (N := some 118) (v := ?_) (a' := ?_) #[T,T,T,T,F,T,T,F,F,F,F] rfl rfl (any_of HT_.out (by kernel_rfl)) (fun _ _ _ h => h) (Or.inl ⟨by rfl, ?_⟩) ?_ ?_; rotate_left; exact zy; rotate_left; exact zput
       refine pure_ (i := 7) (N := some 119) (v := ?_) (a' := ?_) #[T,T,T,T,F,T,T,T,F,F,F] rfl rfl (any_of HT_.out (by kernel_rfl)) (fun _ _ _ h => h) (Or.inl ⟨by rfl, ?_⟩) ?_ ?_; rotate_left; exact zy; rotate_left; exact zput
       refine pure_ (i := 8) (N := some 120) (v := ?_) (a' := ?_) #[T,T,T,T,F,T,T,T,T,F,F] rfl rfl (any_of HT_.out (by kernel_rfl)) (fun _ _ _ h => h) (Or.inl ⟨by rfl, ?_⟩) ?_ ?_; rotate_left; exact zy; rotate_left; exact zput
       refine take_ (i := 4) (N := some 116) (v := ?_) (a' := ?_) #[T,T,T,T,T,T,T,T,T,F,F] rfl rfl (take_ofW HT_.out HW_.out (by kernel_rfl)) (fun _ _ _ h => h) (Or.inl ⟨by rfl, ?_⟩) hHeld ?_ ?_; rotate_left; exact zt4; rotate_left; exact zput
       refine take_ (i := 9) (N := some 121) (v := ?_) (a' := ?_) #[T,T,T,T,T,T,T,T,T,T,F] rfl rfl (take_ofW HT_.out HW_.out (by kernel_rfl)) (fun _ _ _ h => h) (Or.inl ⟨by rfl, ?_⟩) hHeld ?_ ?_; rotate_left; exact zt4; rotate_left; exact zput
       refine pure_ (i := 10) (N := some 122) (v := ?_) (a' := ?_) #[T,T,T,T,T,T,T,T,T,T,T] rfl rfl (any_of HT_.out (by kernel_rfl)) (fun _ _ _ h => h) (Or.inl ⟨by rfl, ?_⟩) ?_ ?_; rotate_left; exact zy; rotate_left; exact zput
       refine done_ (done_of HT_.out (by kernel_rfl)) ?_
       try go_wp2
       go_roundg k2
       case measure => have := HK1.out; have := HK2.out; omega
       case rel => exact ⟨(y208), (wrap64 (x8_2 - 1)), zi, H', ⟨by have := HK1.out; have := HK2.out; omega⟩, ⟨zr HO_4⟩, ⟨zh BK176⟩, ⟨zs1 HB GE176⟩⟩
      rw [if_pos c89] at H
      have c89b0 : decide (((rd_T110 y208 x8_2).f1) < ((rd_T110 y208 x8_2).f0)) = true := decide_eq_true c89
      clear c89
      obtain ⟨y211, hy211⟩ : ∃ y_ : List (S110), y_ = (([] : List (S110))) := ⟨_, rfl⟩
      replace H : (some (y211, false)) = some (r1, r2) := by first | (rw [hy211]; with_reducible exact H) | (have H2_ := (Option.bind_some _ _).symm.trans H; rw [hy211]; with_reducible exact H2_) | (have H2_ := (Option.bind_some _ _).symm.trans H; with_reducible exact H2_) | with_reducible exact H | (rw [hy211]; exact H) | exact H
      have Ny211 := zA hy211
      clear hy211
      simp only [Option.some.injEq, Prod.mk.injEq] at H
      obtain ⟨rfl, rfl⟩ := H
      try go_wp2
      have n0_ := zA (Kd.R_drew HO_4.out)
      have n1_ := zA (blk_drew BK176.out)
      have n2_ := zA (below_drew1 HB.out)
      clear HO_4 BK176 HB
      revert n0_ n1_ n2_
      intro HO_4 BK176 HB
      obtain ⟨Ao91, co91, eo91⟩ := Kd.R_slice HO_4.out
      (first | subst eo91 | (injection eo91 with f1_ f2_ f3_; have f4_ := f1_.symm; have f5_ := f3_.symm; clear f1_ f2_ f3_; subst f4_; subst f5_))
      have p200 : 0 ≤ (x8_2 : Int) := za
      have q200 : x8_2 < (x4_2.length : Int) := za
      obtain ⟨ad200, e200, hx200_0, hx200_1⟩ := at_T110 (Kd.R_reads' HO_4.out).2.2 x8_2 p200 q200
      cases e200
      replace p200 := eq_true p200
      replace q200 := eq_true q200
      have p201 : 0 ≤ ((ji81) : Int) := za
      have q201 : (ji81) < (x4_2.length : Int) := za
      obtain ⟨ad201, e201, hx201_0, hx201_1⟩ := at_T110 (Kd.R_reads' HO_4.out).2.2 (ji81) p201 q201
      obtain rfl : ad200 = ad201 := (by injection e201)
      replace p201 := eq_true p201
      replace q201 := eq_true q201
      refine start_ (n := 21) (S := fun w' => w'.cell? ⟨gb176, 0, none⟩ = some (.int .i64 a0_0) ∧ w'.cell? ⟨gb176, 1, none⟩ = some (.int .i64 a0_1) ∧ w'.cell? ⟨gb176, 2, none⟩ = some (.slice A0_2 l0_2.length c0_2) ∧ w'.cell? ⟨gb176, 3, none⟩ = some (.int .i64 a0_3) ∧ w'.cell? ⟨gb176, 4, none⟩ = some (.int .i64 a0_4) ∧ w'.cell? (ad200.add ((x8_2).toNat * 2)) = some (.int .i64 ((rd_T110 x4_2 x8_2).f0)) ∧ w'.cell? ⟨(ad200.add ((x8_2).toNat * 2)).block, (ad200.add ((x8_2).toNat * 2)).off + 1, none⟩ = some (.int .i64 ((rd_T110 x4_2 x8_2).f1)) ∧ w'.cell? (ad200.add (((ji81)).toNat * 2)) = some (.int .i64 ((rd_T110 x4_2 (ji81)).f0)) ∧ w'.cell? ⟨(ad200.add (((ji81)).toNat * 2)).block, (ad200.add (((ji81)).toNat * 2)).off + 1, none⟩ = some (.int .i64 ((rd_T110 x4_2 (ji81)).f1))) (ds := [20]) #[F,F,F,F,F,F,F,F,F,F,F,F,F,F,F,F,F,F,F,F,F] (by kernel_rfl) rfl rfl ⟨(blk_cell BK176.out 0).trans rfl, (blk_cell BK176.out 1).trans rfl, (blk_cell BK176.out 2).trans rfl, (blk_cell BK176.out 3).trans rfl, (blk_cell BK176.out 4).trans rfl, hx200_0, hx200_1, hx201_0, hx201_1⟩ (fun hHeld => ?_); refine with_tabW spec_l24Spans.tab16 spec_l24Spans.bits16 (fun HT_ HW_ => ?_)
      generalize wr.drew = w90 at HO_4 BK176 HB hx200_0 hx200_1 hx201_0 hx201_1 hHeld ⊢
      refine pure_ (i := 0) (N := some 72) (v := ?_) (a' := ?_) #[T,F,F,F,F,F,F,F,F,F,F,F,F,F,F,F,F,F,F,F,F] rfl rfl (any_of HT_.out (by kernel_rfl)) (fun _ _ _ h => h) (Or.inl ⟨by rfl, ?_⟩) ?_ ?_; rotate_left; exact zy; rotate_left; exact zput
      refine pure_ (i := 1) (N := some 73) (v := ?_) (a' := ?_) #[T,T,F,F,F,F,F,F,F,F,F,F,F,F,F,F,F,F,F,F,F] rfl rfl (any_of HT_.out (by kernel_rfl)) (fun _ _ _ h => h) (Or.inl ⟨by rfl, ?_⟩) ?_ ?_; rotate_left; exact zy; rotate_left; exact zput
      refine pure_ (i := 2) (N := some 74) (v := ?_) (a' := ?_) #[T,T,T,F,F,F,F,F,F,F,F,F,F,F,F,F,F,F,F,F,F] rfl rfl (any_of HT_.out (by kernel_rfl)) (fun _ _ _ h => h) (Or.inl ⟨by rfl, ?_⟩) ?_ ?_; rotate_left; exact zy; rotate_left; exact zput
      refine pure_ (i := 3) (N := some 75) (v := ?_) (a' := ?_) #[T,T,T,T,F,F,F,F,F,F,F,F,F,F,F,F,F,F,F,F,F] rfl rfl (any_of HT_.out (by kernel_rfl)) (fun _ _ _ h => h) (Or.inl ⟨by rfl, ?_⟩) ?_ ?_; rotate_left; exact zy; rotate_left; exact zput
      refine pure_ (i := 4) (N := some 76) (v := ?_) (a' := ?_) #[T,T,T,T,T,F,F,F,F,F,F,F,F,F,F,F,F,F,F,F,F] rfl rfl (any_of HT_.out (by kernel_rfl)) (fun _ _ _ h => h) (Or.inl ⟨by rfl, ?_⟩) ?_ ?_; rotate_left; exact zy; rotate_left; exact zput
      refine pure_ (i := 5) (N := some 77) (v := ?_) (a' := ?_) #[T,T,T,T,T,T,F,F,F,F,F,F,F,F,F,F,F,F,F,F,F] rfl rfl (any_of HT_.out (by kernel_rfl)) (fun _ _ _ h => h) (Or.inl ⟨by rfl, ?_⟩) ?_ ?_; rotate_left; exact zy; rotate_left; exact zput
      refine pure_ (i := 7) (N := some 79) (v := ?_) (a' := ?_) #[T,T,T,T,T,T,F,T,F,F,F,F,F,F,F,F,F,F,F,F,F] rfl rfl (any_of HT_.out (by kernel_rfl)) (fun _ _ _ h => h) (Or.inl ⟨by rfl, ?_⟩) ?_ ?_; rotate_left; exact zy; rotate_left; exact zput
      refine pure_ (i := 8) (N := some 80) (v := ?_) (a' := ?_) #[T,T,T,T,T,T,F,T,T,F,F,F,F,F,F,F,F,F,F,F,F] rfl rfl (any_of HT_.out (by kernel_rfl)) (fun _ _ _ h => h) (Or.inl ⟨by rfl, ?_⟩) ?_ ?_; rotate_left; exact zy; rotate_left; exact zput
      refine pure_ (i := 9) (N := some 81) (v := ?_) (a' := ?_) #[T,T,T,T,T,T,F,T,T,T,F,F,F,F,F,F,F,F,F,F,F] rfl rfl (any_of HT_.out (by kernel_rfl)) (fun _ _ _ h => h) (Or.inl ⟨by rfl, ?_⟩) ?_ ?_; rotate_left; exact zy; rotate_left; exact zput
      refine pure_ (i := 10) (N := some 82) (v := ?_) (a' := ?_) #[T,T,T,T,T,T,F,T,T,T,T,F,F,F,F,F,F,F,F,F,F] rfl rfl (any_of HT_.out (by kernel_rfl)) (fun _ _ _ h => h) (Or.inl ⟨by rfl, ?_⟩) ?_ ?_; rotate_left; exact zy; rotate_left; exact zput
      refine pure_ (i := 11) (N := some 83) (v := ?_) (a' := ?_) #[T,T,T,T,T,T,F,T,T,T,T,T,F,F,F,F,F,F,F,F,F] rfl rfl (any_of HT_.out (by kernel_rfl)) (fun _ _ _ h => h) (Or.inl ⟨by rfl, ?_⟩) ?_ ?_; rotate_left; exact zy; rotate_left; exact zput
      refine pure_ (i := 14) (N := some 86) (v := ?_) (a' := ?_) #[T,T,T,T,T,T,F,T,T,T,T,T,F,F,T,F,F,F,F,F,F] rfl rfl (any_of HT_.out (by kernel_rfl)) (fun _ _ _ h => h) (Or.inl ⟨by rfl, ?_⟩) ?_ ?_; rotate_left; exact zy; rotate_left; exact zput
      refine take_ (i := 6) (N := some 78) (v := ?_) (a' := ?_) #[T,T,T,T,T,T,T,T,T,T,T,T,F,F,T,F,F,F,F,F,F] rfl rfl (take_ofW HT_.out HW_.out (by kernel_rfl)) (fun _ _ _ h => h) (Or.inl ⟨by rfl, ?_⟩) hHeld ?_ ?_; rotate_left; exact zt9; rotate_left; exact zput
      refine take_ (i := 12) (N := some 84) (v := ?_) (a' := ?_) #[T,T,T,T,T,T,T,T,T,T,T,T,T,F,T,F,F,F,F,F,F] rfl rfl (take_ofW HT_.out HW_.out (by kernel_rfl)) (fun _ _ _ h => h) (Or.inl ⟨by rfl, ?_⟩) hHeld ?_ ?_; rotate_left; exact zt9; rotate_left; exact zput
      refine take_ (i := 13) (N := some 85) (v := ?_) (a' := ?_) #[T,T,T,T,T,T,T,T,T,T,T,T,T,T,T,F,F,F,F,F,F] rfl rfl (take_ofW HT_.out HW_.out (by kernel_rfl)) (fun _ _ _ h => h) (Or.inl ⟨by rfl, ?_⟩) hHeld ?_ ?_; rotate_left; exact zt9; rotate_left; exact zput
      refine one_ (i := 15) (N := some 87) #[T,T,T,T,T,T,T,T,T,T,T,T,T,T,T,T,F,F,F,F,F] rfl rfl (one_of HT_.out (by kernel_rfl)) (by decide) (fun K hK => ?_)
      refine goes_ Try.func154 (by kernel_rfl) rfl #[.agg #[.int .i64 a0_0, .int .i64 a0_1, .slice A0_2 l0_2.length c0_2, .int .i64 a0_3, .int .i64 a0_4], .int .i64 x8_2] (by rfl) rfl rfl zl ?_
      with_reducible refine (spec_l23Most.calls a0_0 a0_1 _ _ l0_2 a0_3 a0_4 x8_2 t202 _ ?side1 ?side2 A84.out).mono ?_
      (case side1 => exact zC HR0_2 HB)
      (case side2 => exact HC0_2.out)
      rintro e w92 ⟨rfl, hb⟩
      have HS5_ := (hb.cell (World.block_lt_of_cell? _ _ (hHeld.2.2.2.2.2.1))).trans (hHeld.2.2.2.2.2.1)
      have HS6_ := (hb.cell (World.block_lt_of_cell? _ _ (hHeld.2.2.2.2.2.2.1))).trans (hHeld.2.2.2.2.2.2.1)
      have HS7_ := (hb.cell (World.block_lt_of_cell? _ _ (hHeld.2.2.2.2.2.2.2.1))).trans (hHeld.2.2.2.2.2.2.2.1)
      have HS8_ := (hb.cell (World.block_lt_of_cell? _ _ (hHeld.2.2.2.2.2.2.2.2))).trans (hHeld.2.2.2.2.2.2.2.2)
      refine ⟨_, rfl, ?_⟩
      have n0_ := zA (Kd.R_below (zr HO_4) hb)
      have n1_ := zb BK176 hb
      have n2_ := zA (below_step (zs1 HB GE176) hb)
      clear HO_4 BK176 HB
      revert n0_ n1_ n2_
      intro HO_4 BK176 HB
      (try clear hb)
      (try clear hb2)
      (try clear hk)
      (try clear hi)
      refine hK.out _ _ ⟨(blk_cell BK176.out 0).trans rfl, (blk_cell BK176.out 1).trans rfl, (blk_cell BK176.out 2).trans rfl, (blk_cell BK176.out 3).trans rfl, (blk_cell BK176.out 4).trans rfl, HS5_, HS6_, HS7_, HS8_⟩ (fun hHeld => ?_)
      clear hK K
      refine norm_ (a' := ?_) ?_ ?_
      rotate_left
      ·show Act.put _ (some 87) _ = _
       simp only [Act.put, List.setIfInBounds_toArray, List.set_cons_zero, List.set_cons_succ, i64_w, i32_w]
       rfl
      refine pure_ (i := 16) (N := some 88) (v := ?_) (a' := ?_) #[T,T,T,T,T,T,T,T,T,T,T,T,T,T,T,T,T,F,F,F,F] rfl rfl (any_of HT_.out (by kernel_rfl)) (fun _ _ _ h => h) (Or.inl ⟨by rfl, ?_⟩) ?_ ?_; rotate_left; exact zy; rotate_left; exact zput
      refine one_ (i := 17) (N := some 89) #[T,T,T,T,T,T,T,T,T,T,T,T,T,T,T,T,T,T,F,F,F] rfl rfl (one_of HT_.out (by kernel_rfl)) (by decide) (fun K hK => ?_)
      refine goes_ Try.func130 (by kernel_rfl) rfl #[.int .i64 ((rd_T110 x4_2 x8_2).f0), .int .i64 (wrap64 (((rd_T110 x4_2 (ji81)).f0) - t202))] (by rfl) rfl rfl (by (try simp only [List.map_toArray, List.map_cons, List.map_nil]); first | done | (simp only [hji81]; rfl) | rfl | (simp only [List.length_drop, List.length_take]; rfl)) ?_
      with_reducible refine (spec_l21Max.calls ((rd_T110 x4_2 x8_2).f0) (wrap64 (((rd_T110 x4_2 (ji81)).f0) - t202)) t203 _ A85.out).mono ?_
      rintro e w' ⟨rfl, ⟨nd, rfl⟩⟩
      refine ⟨_, rfl, ?_⟩
      have p86 : 0 ≤ (x8_2 : Int) := za
      have q86 : (x8_2 : Int) < ((x4_2.length : Int) : Int) := za
      obtain ⟨go86, co86, eo86, gb86, gl86, cl86, HG86⟩ := Kd.R_form HO_4.out (by omega)
      (first | cases eo86 | (injection eo86 with ea_ en_ ec_; (first | subst ea_ | (injection ea_ with ea_; subst ea_)); subst ec_; clear en_))
      have GB86 := zA gb86
      have GG86 := zA HG86
      clear gb86 gl86 HG86
      (first | simp only [add_plain] at hx200_0 | skip)
      (first | simp only [add_plain] at hx200_1 | skip)
      (first | simp only [add_plain] at hx201_0 | skip)
      (first | simp only [add_plain] at hx201_1 | skip)
      obtain ⟨ce86, hcl86, hM86, hcc86, hfr86⟩ := Kd.R_elem HO_4.out z110 (x8_2 : Int) p86 q86
      obtain rfl := k110_openM hM86
      have hx86_0 : World.cell? _ ⟨go86, (x8_2 : Int).toNat * 2, none⟩ = some (.int .i64 ((rd_T110 x4_2 x8_2).f0)) := hcc86 0 _ rfl
      have hx86_1 : World.cell? _ ⟨go86, (x8_2 : Int).toNat * 2 + 1, none⟩ = some (.int .i64 ((rd_T110 x4_2 x8_2).f1)) := hcc86 1 _ rfl
      have hf86_0 : World.frozen? _ ⟨go86, (x8_2 : Int).toNat * 2, none⟩ = false := hfr86 0
      have hf86_1 : World.frozen? _ ⟨go86, (x8_2 : Int).toNat * 2 + 1, none⟩ = false := hfr86 1
      clear hcl86 hcc86 hfr86 hM86
      replace p86 := eq_true p86
      replace q86 := eq_true q86
      obtain ⟨ce93, hcl93, hM93, hcc93, hfr93⟩ := Kd.R_elem HO_4.out z110 (x8_2 : Int) (za) (by have h_ : (x8_2 : Int) < ((x4_2.length : Int) : Int) := za; first | exact h_ | (have e_ := (Kd.R_reads' HO_4.out).1; omega) | simpa using h_)
      obtain rfl := k110_openM hM93
      have HP93 := (Kd.R_seg HO_4.out (x8_2 : Int) (za) (by have h_ : (x8_2 : Int) < ((x4_2.length : Int) : Int) := za; first | exact h_ | (have e_ := (Kd.R_reads' HO_4.out).1; omega) | simpa using h_) (seg := [.int .i64 t203]) (j := 0) hcl93 hcc93 (show 1 ≤ 2 from by decide) (x' := (⟨t203, (rd_T110 x4_2 x8_2).f1⟩ : S110)) (k110_mkM _ _ _ (⟨t203, (rd_T110 x4_2 x8_2).f1⟩ : S110) ) (fun _ hk => hk)).1
      rw [← Ny204.out] at HP93
      have HQ93 := zA HP93
      clear hcl93 hcc93 hfr93 hM93 HP93
      refine hK.out _ _ ⟨(blk_cell BK176.out 0).trans rfl, (blk_cell BK176.out 1).trans rfl, (blk_cell BK176.out 2).trans rfl, (blk_cell BK176.out 3).trans rfl, (blk_cell BK176.out 4).trans rfl, hHeld.2.2.2.2.2.1, hHeld.2.2.2.2.2.2.1, hHeld.2.2.2.2.2.2.2.1, hHeld.2.2.2.2.2.2.2.2⟩ (fun hHeld => ?_)
      clear hK K
      refine norm_ (a' := ?_) ?_ ?_
      rotate_left
      ·show Act.put _ (some 89) _ = _
       simp only [Act.put, List.setIfInBounds_toArray, List.set_cons_zero, List.set_cons_succ, i64_w, i32_w]
       rfl
      refine pure_ (i := 18) (N := some 90) (v := ?_) (a' := ?_) #[T,T,T,T,T,T,T,T,T,T,T,T,T,T,T,T,T,T,T,F,F] rfl rfl (any_of HT_.out (by kernel_rfl)) (fun _ _ _ h => h) (Or.inl ⟨by rfl, ?_⟩) ?_ ?_; rotate_left; exact zy; rotate_left; exact zput
      refine pure_ (i := 19) (N := some 91) (v := ?_) (a' := ?_) #[T,T,T,T,T,T,T,T,T,T,T,T,T,T,T,T,T,T,T,T,F] rfl rfl (any_of HT_.out (by kernel_rfl)) (fun _ _ _ h => h) (Or.inl ⟨by rfl, ?_⟩) ?_ ?_; rotate_left; exact zy; rotate_left; exact zput
      refine last_ (i := 20) (N := none) #[T,T,T,T,T,T,T,T,T,T,T,T,T,T,T,T,T,T,T,T,T] rfl rfl (one_of HT_.out (by kernel_rfl)) (by decide) (fun K hK => ?_)
      refine skip_ (w1 := ?_) (by rfl) rfl ?_ ?_
      rotate_left
      ·go_simp
       rfl
      refine hK.out _ _ ?_
      clear hK K
      refine done_ (done_of HT_.out (by kernel_rfl)) ?_
      try go_wp2
      have n0_ : Aside0 (Kd.R k110 110 (w92.setCell ⟨go86, (x8_2 : Int).toNat * 2, none⟩ (.int .i64 t203)) w.heap.size (fun _ => True) (.slice (some ⟨go86, 0, none⟩) x4_2.length co91) y204) := ⟨zr HQ93⟩
      have n1_ : Aside0 ((w92.setCell ⟨go86, (x8_2 : Int).toNat * 2, none⟩ (.int .i64 t203)).heap[gb176]? = some (.cells #[.int .i64 a0_0, .int .i64 a0_1, .slice A0_2 l0_2.length c0_2, .int .i64 a0_3, .int .i64 a0_4] 68 (0, 0))) := ⟨by (with_reducible repeat (first | refine blk_drewN ?_ _ | refine blk_drew ?_ | refine blk_alloc ?_ _)); refine blk_far ?_ (by have h_ := Kd.R_ne HO_4.out BK176.out (by decide); intro e_; exact h_ (by rw [e_]; rfl)) _; (with_reducible repeat (first | refine blk_drewN ?_ _ | refine blk_drew ?_ | refine blk_alloc ?_ _)); exact BK176.out⟩
      have n2_ : Aside0 (Below w.heap.size w (w92.setCell ⟨go86, (x8_2 : Int).toNat * 2, none⟩ (.int .i64 t203))) := ⟨by repeat (first | (with_reducible first | exact HB.out | apply below_alloc | apply pw_below_drewN | apply below_drew1 | refine below_set ?_ GB86.out | refine below_set ?_ GE176.out) | exact HB.out)⟩
      (try clear HO_4)
      (try clear BK176)
      (try clear HB)
      generalize (w92.setCell ⟨go86, (x8_2 : Int).toNat * 2, none⟩ (.int .i64 t203)) = w94 at n0_ n1_ n2_ ⊢
      have HO_4 := n0_
      have BK176 := n1_
      have HB := n2_
      clear n0_ n1_ n2_
      (try (rw [drewN_self w94]; generalize hq_ : World.drewN w94 _ = w94; have n0_ : Aside0 (Kd.R k110 110 w94 w.heap.size (fun _ => True) (.slice (some ⟨go86, 0, none⟩) x4_2.length co91) y204) := ⟨by rw [← hq_]; exact (zr HO_4)⟩; have n1_ : Aside0 (w94.heap[gb176]? = some (.cells #[.int .i64 a0_0, .int .i64 a0_1, .slice A0_2 l0_2.length c0_2, .int .i64 a0_3, .int .i64 a0_4] 68 (0, 0))) := ⟨by rw [← hq_]; exact (zh BK176)⟩; have n2_ : Aside0 (Below w.heap.size w w94) := ⟨by rw [← hq_]; exact (zs1 HB GE176)⟩; clear HO_4 BK176 HB hq_; have HO_4 := n0_; have BK176 := n1_; have HB := n2_; clear n0_ n1_ n2_))
      have n0_ := zA (Kd.R_drew HO_4.out)
      have n1_ := zA (blk_drew BK176.out)
      have n2_ := zA (below_drew1 HB.out)
      clear HO_4 BK176 HB
      revert n0_ n1_ n2_
      intro HO_4 BK176 HB
      have p205 : 0 ≤ (x8_2 : Int) := za
      have q205 : x8_2 < (y204.length : Int) := (by have h_ : (x8_2 : Int) < ((x4_2.length : Int) : Int) := za; first | (have e_ := (Kd.R_reads' HO_4.out).1; omega) | simpa only [Ny204.out, List.length_set] using h_)
      have ql205 : ((x8_2 : Int) < ((x4_2.length : Int) : Int)) = True := eq_true (za)
      obtain ⟨ad205, e205, hx205_0, hx205_1⟩ := at_T110 (Kd.R_reads' HO_4.out).2.2 x8_2 p205 q205
      obtain rfl : (⟨go86, 0, none⟩ : Addr) = ad205 := (by injection e205)
      (first | simp only [add_plain] at hx205_0 | simp only [add_at] at hx205_0 | simp only [Addr.add, Nat.zero_add] at hx205_0 | skip)
      (first | simp only [add_plain] at hx205_1 | simp only [add_at] at hx205_1 | simp only [Addr.add, Nat.zero_add] at hx205_1 | skip)
      replace p205 := eq_true p205
      replace q205 := eq_true q205
      have p206 : 0 ≤ ((ji81) : Int) := za
      have q206 : (ji81) < (y204.length : Int) := (by have h_ : ((ji81) : Int) < ((x4_2.length : Int) : Int) := za; first | (have e_ := (Kd.R_reads' HO_4.out).1; omega) | simpa only [Ny204.out, List.length_set] using h_)
      have ql206 : (((ji81) : Int) < ((x4_2.length : Int) : Int)) = True := eq_true (za)
      obtain ⟨ad206, e206, hx206_0, hx206_1⟩ := at_T110 (Kd.R_reads' HO_4.out).2.2 (ji81) p206 q206
      obtain rfl : (⟨go86, 0, none⟩ : Addr) = ad206 := (by injection e206)
      (first | simp only [add_plain] at hx206_0 | simp only [add_at] at hx206_0 | simp only [Addr.add, Nat.zero_add] at hx206_0 | skip)
      (first | simp only [add_plain] at hx206_1 | simp only [add_at] at hx206_1 | simp only [Addr.add, Nat.zero_add] at hx206_1 | skip)
      replace p206 := eq_true p206
      replace q206 := eq_true q206
      refine start_ (n := 21) (S := fun w' => w'.cell? ⟨gb176, 0, none⟩ = some (.int .i64 a0_0) ∧ w'.cell? ⟨gb176, 1, none⟩ = some (.int .i64 a0_1) ∧ w'.cell? ⟨gb176, 2, none⟩ = some (.slice A0_2 l0_2.length c0_2) ∧ w'.cell? ⟨gb176, 3, none⟩ = some (.int .i64 a0_3) ∧ w'.cell? ⟨gb176, 4, none⟩ = some (.int .i64 a0_4) ∧ w'.cell? ⟨go86, (x8_2).toNat * 2, none⟩ = some (.int .i64 ((rd_T110 y204 x8_2).f0)) ∧ w'.cell? ⟨go86, (x8_2).toNat * 2 + 1, none⟩ = some (.int .i64 ((rd_T110 y204 x8_2).f1)) ∧ w'.cell? ⟨go86, ((ji81)).toNat * 2, none⟩ = some (.int .i64 ((rd_T110 y204 (ji81)).f0)) ∧ w'.cell? ⟨go86, ((ji81)).toNat * 2 + 1, none⟩ = some (.int .i64 ((rd_T110 y204 (ji81)).f1))) (ds := [20]) #[F,F,F,F,F,F,F,F,F,F,F,F,F,F,F,F,F,F,F,F,F] (by kernel_rfl) rfl rfl ⟨(blk_cell BK176.out 0).trans rfl, (blk_cell BK176.out 1).trans rfl, (blk_cell BK176.out 2).trans rfl, (blk_cell BK176.out 3).trans rfl, (blk_cell BK176.out 4).trans rfl, hx205_0, hx205_1, hx206_0, hx206_1⟩ (fun hHeld => ?_); refine with_tabW spec_l24Spans.tab17 spec_l24Spans.bits17 (fun HT_ HW_ => ?_)
      generalize w94.drew = w95 at HO_4 BK176 HB HQ93 hx205_0 hx205_1 hx206_0 hx206_1 hHeld ⊢
      refine pure_ (i := 0) (N := some 92) (v := ?_) (a' := ?_) #[T,F,F,F,F,F,F,F,F,F,F,F,F,F,F,F,F,F,F,F,F] rfl rfl (any_of HT_.out (by kernel_rfl)) (fun _ _ _ h => h) (Or.inl ⟨by rfl, ?_⟩) ?_ ?_; rotate_left; exact zy; rotate_left; exact zput
      refine pure_ (i := 1) (N := some 93) (v := ?_) (a' := ?_) #[T,T,F,F,F,F,F,F,F,F,F,F,F,F,F,F,F,F,F,F,F] rfl rfl (any_of HT_.out (by kernel_rfl)) (fun _ _ _ h => h) (Or.inl ⟨by rfl, ?_⟩) ?_ ?_; rotate_left; exact zy; rotate_left; exact zput
      refine pure_ (i := 2) (N := some 94) (v := ?_) (a' := ?_) #[T,T,T,F,F,F,F,F,F,F,F,F,F,F,F,F,F,F,F,F,F] rfl rfl (any_of HT_.out (by kernel_rfl)) (fun _ _ _ h => h) (Or.inl ⟨by rfl, ?_⟩) ?_ ?_; rotate_left; exact zy; rotate_left; exact zput
      refine pure_ (i := 3) (N := some 95) (v := ?_) (a' := ?_) #[T,T,T,T,F,F,F,F,F,F,F,F,F,F,F,F,F,F,F,F,F] rfl rfl (any_of HT_.out (by kernel_rfl)) (fun _ _ _ h => h) (Or.inl ⟨by rfl, ?_⟩) ?_ ?_; rotate_left; exact zy; rotate_left; exact zput
      refine pure_ (i := 4) (N := some 96) (v := ?_) (a' := ?_) #[T,T,T,T,T,F,F,F,F,F,F,F,F,F,F,F,F,F,F,F,F] rfl rfl (any_of HT_.out (by kernel_rfl)) (fun _ _ _ h => h) (Or.inl ⟨by rfl, ?_⟩) ?_ ?_; rotate_left; exact zy; rotate_left; exact zput
      refine pure_ (i := 5) (N := some 97) (v := ?_) (a' := ?_) #[T,T,T,T,T,T,F,F,F,F,F,F,F,F,F,F,F,F,F,F,F] rfl rfl (any_of HT_.out (by kernel_rfl)) (fun _ _ _ h => h) (Or.inl ⟨by rfl, ?_⟩) ?_ ?_; rotate_left; exact zy; rotate_left; exact zput
      refine pure_ (i := 7) (N := some 99) (v := ?_) (a' := ?_) #[T,T,T,T,T,T,F,T,F,F,F,F,F,F,F,F,F,F,F,F,F] rfl rfl (any_of HT_.out (by kernel_rfl)) (fun _ _ _ h => h) (Or.inl ⟨by rfl, ?_⟩) ?_ ?_; rotate_left; exact zy; rotate_left; exact zput
      refine pure_ (i := 8) (N := some 100) (v := ?_) (a' := ?_) #[T,T,T,T,T,T,F,T,T,F,F,F,F,F,F,F,F,F,F,F,F] rfl rfl (any_of HT_.out (by kernel_rfl)) (fun _ _ _ h => h) (Or.inl ⟨by rfl, ?_⟩) ?_ ?_; rotate_left; exact zy; rotate_left; exact zput
      refine pure_ (i := 9) (N := some 101) (v := ?_) (a' := ?_) #[T,T,T,T,T,T,F,T,T,T,F,F,F,F,F,F,F,F,F,F,F] rfl rfl (any_of HT_.out (by kernel_rfl)) (fun _ _ _ h => h) (Or.inl ⟨by rfl, ?_⟩) ?_ ?_; rotate_left; exact zy; rotate_left; exact zput
      refine pure_ (i := 10) (N := some 102) (v := ?_) (a' := ?_) #[T,T,T,T,T,T,F,T,T,T,T,F,F,F,F,F,F,F,F,F,F] rfl rfl (any_of HT_.out (by kernel_rfl)) (fun _ _ _ h => h) (Or.inl ⟨by rfl, ?_⟩) ?_ ?_; rotate_left; exact zy; rotate_left; exact zput
      refine pure_ (i := 11) (N := some 103) (v := ?_) (a' := ?_) #[T,T,T,T,T,T,F,T,T,T,T,T,F,F,F,F,F,F,F,F,F] rfl rfl (any_of HT_.out (by kernel_rfl)) (fun _ _ _ h => h) (Or.inl ⟨by rfl, ?_⟩) ?_ ?_; rotate_left; exact zy; rotate_left; exact zput
      refine pure_ (i := 13) (N := some 105) (v := ?_) (a' := ?_) #[T,T,T,T,T,T,F,T,T,T,T,T,F,T,F,F,F,F,F,F,F] rfl rfl (any_of HT_.out (by kernel_rfl)) (fun _ _ _ h => h) (Or.inl ⟨by rfl, ?_⟩) ?_ ?_; rotate_left; exact zy; rotate_left; exact zput
      refine pure_ (i := 14) (N := some 106) (v := ?_) (a' := ?_) #[T,T,T,T,T,T,F,T,T,T,T,T,F,T,T,F,F,F,F,F,F] rfl rfl (any_of HT_.out (by kernel_rfl)) (fun _ _ _ h => h) (Or.inl ⟨by rfl, ?_⟩) ?_ ?_; rotate_left; exact zy; rotate_left; exact zput
      refine take_ (i := 6) (N := some 98) (v := ?_) (a' := ?_) #[T,T,T,T,T,T,T,T,T,T,T,T,F,T,T,F,F,F,F,F,F] rfl rfl (take_ofW HT_.out HW_.out (by kernel_rfl)) (fun _ _ _ h => h) (Or.inl ⟨by rfl, ?_⟩) hHeld ?_ ?_; rotate_left; exact zt9; rotate_left; exact zput
      refine take_ (i := 12) (N := some 104) (v := ?_) (a' := ?_) #[T,T,T,T,T,T,T,T,T,T,T,T,T,T,T,F,F,F,F,F,F] rfl rfl (take_ofW HT_.out HW_.out (by kernel_rfl)) (fun _ _ _ h => h) (Or.inl ⟨by rfl, ?_⟩) hHeld ?_ ?_; rotate_left; exact zt9; rotate_left; exact zput
      refine take_ (i := 15) (N := some 107) (v := ?_) (a' := ?_) #[T,T,T,T,T,T,T,T,T,T,T,T,T,T,T,T,F,F,F,F,F] rfl rfl (take_ofW HT_.out HW_.out (by kernel_rfl)) (fun _ _ _ h => h) (Or.inl ⟨by rfl, ?_⟩) hHeld ?_ ?_; rotate_left; exact zt9; rotate_left; exact zput
      refine pure_ (i := 16) (N := some 108) (v := ?_) (a' := ?_) #[T,T,T,T,T,T,T,T,T,T,T,T,T,T,T,T,T,F,F,F,F] rfl rfl (any_of HT_.out (by kernel_rfl)) (fun _ _ _ h => h) (Or.inl ⟨by rfl, ?_⟩) ?_ ?_; rotate_left; exact zy; rotate_left; exact zput
      refine one_ (i := 17) (N := some 109) #[T,T,T,T,T,T,T,T,T,T,T,T,T,T,T,T,T,T,F,F,F] rfl rfl (one_of HT_.out (by kernel_rfl)) (by decide) (fun K hK => ?_)
      refine goes_ Try.func98 (by kernel_rfl) rfl #[.int .i64 ((rd_T110 y204 x8_2).f1), .int .i64 (wrap64 (((rd_T110 y204 (ji81)).f1) - a0_0))] (by rfl) rfl rfl (by (try simp only [List.map_toArray, List.map_cons, List.map_nil]); first | done | (simp only [hji81]; rfl) | rfl | (simp only [List.length_drop, List.length_take]; rfl)) ?_
      with_reducible refine (spec_l21Min.calls ((rd_T110 y204 x8_2).f1) (wrap64 (((rd_T110 y204 (ji81)).f1) - a0_0)) t207 _ A87.out).mono ?_
      rintro e w' ⟨rfl, ⟨nd, rfl⟩⟩
      refine ⟨_, rfl, ?_⟩
      have p88 : 0 ≤ (x8_2 : Int) := za
      have q88 : (x8_2 : Int) < ((x4_2.length : Int) : Int) := za
      obtain ⟨ce88, hcl88, hM88, hcc88, hfr88⟩ := Kd.R_elem HO_4.out z110 (x8_2 : Int) p88 q88
      obtain rfl := k110_openM hM88
      have hx88_0 : World.cell? _ ⟨go86, (x8_2 : Int).toNat * 2, none⟩ = some (.int .i64 ((rd_T110 y204 x8_2).f0)) := hcc88 0 _ rfl
      have hx88_1 : World.cell? _ ⟨go86, (x8_2 : Int).toNat * 2 + 1, none⟩ = some (.int .i64 ((rd_T110 y204 x8_2).f1)) := hcc88 1 _ rfl
      have hf88_0 : World.frozen? _ ⟨go86, (x8_2 : Int).toNat * 2, none⟩ = false := hfr88 0
      have hf88_1 : World.frozen? _ ⟨go86, (x8_2 : Int).toNat * 2 + 1, none⟩ = false := hfr88 1
      clear hcl88 hcc88 hfr88 hM88
      replace p88 := eq_true p88
      replace q88 := eq_true q88
      obtain ⟨ce96, hcl96, hM96, hcc96, hfr96⟩ := Kd.R_elem HO_4.out z110 (x8_2 : Int) (za) (by have h_ : (x8_2 : Int) < ((x4_2.length : Int) : Int) := za; first | exact h_ | (have e_ := (Kd.R_reads' HO_4.out).1; omega) | simpa using h_)
      obtain rfl := k110_openM hM96
      have HP96 := (Kd.R_seg HO_4.out (x8_2 : Int) (za) (by have h_ : (x8_2 : Int) < ((x4_2.length : Int) : Int) := za; first | exact h_ | (have e_ := (Kd.R_reads' HO_4.out).1; omega) | simpa using h_) (seg := [.int .i64 t207]) (j := 1) hcl96 hcc96 (show 2 ≤ 2 from by decide) (x' := (⟨(rd_T110 y204 x8_2).f0, t207⟩ : S110)) (k110_mkM _ _ _ (⟨(rd_T110 y204 x8_2).f0, t207⟩ : S110) ) (fun _ hk => hk)).1
      rw [← Ny208.out] at HP96
      have HQ96 := zA HP96
      clear hcl96 hcc96 hfr96 hM96 HP96
      refine hK.out _ _ ⟨(blk_cell BK176.out 0).trans rfl, (blk_cell BK176.out 1).trans rfl, (blk_cell BK176.out 2).trans rfl, (blk_cell BK176.out 3).trans rfl, (blk_cell BK176.out 4).trans rfl, hHeld.2.2.2.2.2.1, hHeld.2.2.2.2.2.2.1, hHeld.2.2.2.2.2.2.2.1, hHeld.2.2.2.2.2.2.2.2⟩ (fun hHeld => ?_)
      clear hK K
      refine norm_ (a' := ?_) ?_ ?_
      rotate_left
      ·show Act.put _ (some 109) _ = _
       simp only [Act.put, List.setIfInBounds_toArray, List.set_cons_zero, List.set_cons_succ, i64_w, i32_w]
       rfl
      refine pure_ (i := 18) (N := some 110) (v := ?_) (a' := ?_) #[T,T,T,T,T,T,T,T,T,T,T,T,T,T,T,T,T,T,T,F,F] rfl rfl (any_of HT_.out (by kernel_rfl)) (fun _ _ _ h => h) (Or.inl ⟨by rfl, ?_⟩) ?_ ?_; rotate_left; exact zy; rotate_left; exact zput
      refine pure_ (i := 19) (N := some 111) (v := ?_) (a' := ?_) #[T,T,T,T,T,T,T,T,T,T,T,T,T,T,T,T,T,T,T,T,F] rfl rfl (any_of HT_.out (by kernel_rfl)) (fun _ _ _ h => h) (Or.inl ⟨by rfl, ?_⟩) ?_ ?_; rotate_left; exact zy; rotate_left; exact zput
      refine last_ (i := 20) (N := none) #[T,T,T,T,T,T,T,T,T,T,T,T,T,T,T,T,T,T,T,T,T] rfl rfl (one_of HT_.out (by kernel_rfl)) (by decide) (fun K hK => ?_)
      refine skip_ (w1 := ?_) (by rfl) rfl ?_ ?_
      rotate_left
      ·go_simp
       rfl
      refine hK.out _ _ ?_
      clear hK K
      refine done_ (done_of HT_.out (by kernel_rfl)) ?_
      try go_wp2
      have n0_ : Aside0 (Kd.R k110 110 (w95.setCell ⟨go86, (x8_2 : Int).toNat * 2 + 1, none⟩ (.int .i64 t207)) w.heap.size (fun _ => True) (.slice (some ⟨go86, 0, none⟩) x4_2.length co91) y208) := ⟨zr HQ96⟩
      have n1_ : Aside0 ((w95.setCell ⟨go86, (x8_2 : Int).toNat * 2 + 1, none⟩ (.int .i64 t207)).heap[gb176]? = some (.cells #[.int .i64 a0_0, .int .i64 a0_1, .slice A0_2 l0_2.length c0_2, .int .i64 a0_3, .int .i64 a0_4] 68 (0, 0))) := ⟨by (with_reducible repeat (first | refine blk_drewN ?_ _ | refine blk_drew ?_ | refine blk_alloc ?_ _)); refine blk_far ?_ (by have h_ := Kd.R_ne HO_4.out BK176.out (by decide); intro e_; exact h_ (by rw [e_]; rfl)) _; (with_reducible repeat (first | refine blk_drewN ?_ _ | refine blk_drew ?_ | refine blk_alloc ?_ _)); exact BK176.out⟩
      have n2_ : Aside0 (Below w.heap.size w (w95.setCell ⟨go86, (x8_2 : Int).toNat * 2 + 1, none⟩ (.int .i64 t207))) := ⟨by repeat (first | (with_reducible first | exact HB.out | apply below_alloc | apply pw_below_drewN | apply below_drew1 | refine below_set ?_ GB86.out | refine below_set ?_ GE176.out) | exact HB.out)⟩
      (try clear HO_4)
      (try clear BK176)
      (try clear HB)
      generalize (w95.setCell ⟨go86, (x8_2 : Int).toNat * 2 + 1, none⟩ (.int .i64 t207)) = w97 at n0_ n1_ n2_ ⊢
      have HO_4 := n0_
      have BK176 := n1_
      have HB := n2_
      clear n0_ n1_ n2_
      (try (rw [drewN_self w97]; generalize hq_ : World.drewN w97 _ = w97; have n0_ : Aside0 (Kd.R k110 110 w97 w.heap.size (fun _ => True) (.slice (some ⟨go86, 0, none⟩) x4_2.length co91) y208) := ⟨by rw [← hq_]; exact (zr HO_4)⟩; have n1_ : Aside0 (w97.heap[gb176]? = some (.cells #[.int .i64 a0_0, .int .i64 a0_1, .slice A0_2 l0_2.length c0_2, .int .i64 a0_3, .int .i64 a0_4] 68 (0, 0))) := ⟨by rw [← hq_]; exact (zh BK176)⟩; have n2_ : Aside0 (Below w.heap.size w w97) := ⟨by rw [← hq_]; exact (zs1 HB GE176)⟩; clear HO_4 BK176 HB hq_; have HO_4 := n0_; have BK176 := n1_; have HB := n2_; clear n0_ n1_ n2_))
      have n0_ := zA (Kd.R_drew HO_4.out)
      have n1_ := zA (blk_drew BK176.out)
      have n2_ := zA (below_drew1 HB.out)
      clear HO_4 BK176 HB
      revert n0_ n1_ n2_
      intro HO_4 BK176 HB
      have p209 : 0 ≤ (x8_2 : Int) := za
      have q209 : x8_2 < (y208.length : Int) := (by have h_ : (x8_2 : Int) < ((x4_2.length : Int) : Int) := za; first | (have e_ := (Kd.R_reads' HO_4.out).1; omega) | simpa only [Ny204.out, Ny208.out, List.length_set] using h_)
      have ql209 : ((x8_2 : Int) < ((x4_2.length : Int) : Int)) = True := eq_true (za)
      obtain ⟨ad209, e209, hx209_0, hx209_1⟩ := at_T110 (Kd.R_reads' HO_4.out).2.2 x8_2 p209 q209
      obtain rfl : (⟨go86, 0, none⟩ : Addr) = ad209 := (by injection e209)
      (first | simp only [add_plain] at hx209_0 | simp only [add_at] at hx209_0 | simp only [Addr.add, Nat.zero_add] at hx209_0 | skip)
      (first | simp only [add_plain] at hx209_1 | simp only [add_at] at hx209_1 | simp only [Addr.add, Nat.zero_add] at hx209_1 | skip)
      replace p209 := eq_true p209
      replace q209 := eq_true q209
      have p210 : 0 ≤ (x8_2 : Int) := za
      have q210 : x8_2 < (y208.length : Int) := (by have h_ : (x8_2 : Int) < ((x4_2.length : Int) : Int) := za; first | (have e_ := (Kd.R_reads' HO_4.out).1; omega) | simpa only [Ny204.out, Ny208.out, List.length_set] using h_)
      have ql210 : ((x8_2 : Int) < ((x4_2.length : Int) : Int)) = True := eq_true (za)
      obtain ⟨ad210, e210, hx210_0, hx210_1⟩ := at_T110 (Kd.R_reads' HO_4.out).2.2 x8_2 p210 q210
      obtain rfl : (⟨go86, 0, none⟩ : Addr) = ad210 := (by injection e210)
      (first | simp only [add_plain] at hx210_0 | simp only [add_at] at hx210_0 | simp only [Addr.add, Nat.zero_add] at hx210_0 | skip)
      (first | simp only [add_plain] at hx210_1 | simp only [add_at] at hx210_1 | simp only [Addr.add, Nat.zero_add] at hx210_1 | skip)
      replace p210 := eq_true p210
      replace q210 := eq_true q210
      refine start_ (n := 11) (S := fun w' => w'.cell? ⟨go86, (x8_2).toNat * 2, none⟩ = some (.int .i64 ((rd_T110 y208 x8_2).f0)) ∧ w'.cell? ⟨go86, (x8_2).toNat * 2 + 1, none⟩ = some (.int .i64 ((rd_T110 y208 x8_2).f1)) ∧ w'.cell? ⟨go86, (x8_2).toNat * 2, none⟩ = some (.int .i64 ((rd_T110 y208 x8_2).f0)) ∧ w'.cell? ⟨go86, (x8_2).toNat * 2 + 1, none⟩ = some (.int .i64 ((rd_T110 y208 x8_2).f1))) (ds := []) #[F,F,F,F,F,F,F,F,F,F,F] (by kernel_rfl) rfl rfl ⟨hx209_0, hx209_1, hx210_0, hx210_1⟩ (fun hHeld => ?_); refine with_tabW spec_l24Spans.tab18 spec_l24Spans.bits18 (fun HT_ HW_ => ?_)
      generalize w97.drew = w98 at HO_4 BK176 HB HQ96 hx209_0 hx209_1 hx210_0 hx210_1 hHeld ⊢
      refine pure_ (i := 0) (N := some 112) (v := ?_) (a' := ?_) #[T,F,F,F,F,F,F,F,F,F,F] rfl rfl (any_of HT_.out (by kernel_rfl)) (fun _ _ _ h => h) (Or.inl ⟨by rfl, ?_⟩) ?_ ?_; rotate_left; exact zy; rotate_left; exact zput
      refine pure_ (i := 1) (N := some 113) (v := ?_) (a' := ?_) #[T,T,F,F,F,F,F,F,F,F,F] rfl rfl (any_of HT_.out (by kernel_rfl)) (fun _ _ _ h => h) (Or.inl ⟨by rfl, ?_⟩) ?_ ?_; rotate_left; exact zy; rotate_left; exact zput
      refine pure_ (i := 2) (N := some 114) (v := ?_) (a' := ?_) #[T,T,T,F,F,F,F,F,F,F,F] rfl rfl (any_of HT_.out (by kernel_rfl)) (fun _ _ _ h => h) (Or.inl ⟨by rfl, ?_⟩) ?_ ?_; rotate_left; exact zy; rotate_left; exact zput
      refine pure_ (i := 3) (N := some 115) (v := ?_) (a' := ?_) #[T,T,T,T,F,F,F,F,F,F,F] rfl rfl (any_of HT_.out (by kernel_rfl)) (fun _ _ _ h => h) (Or.inl ⟨by rfl, ?_⟩) ?_ ?_; rotate_left; exact zy; rotate_left; exact zput
      refine pure_ (i := 5) (N := some 117) (v := ?_) (a' := ?_) #[T,T,T,T,F,T,F,F,F,F,F] rfl rfl (any_of HT_.out (by kernel_rfl)) (fun _ _ _ h => h) (Or.inl ⟨by rfl, ?_⟩) ?_ ?_; rotate_left; exact zy; rotate_left; exact zput
      refine pure_ (i := 6) (N := some 118) (v := ?_) (a' := ?_) #[T,T,T,T,F,T,T,F,F,F,F] rfl rfl (any_of HT_.out (by kernel_rfl)) (fun _ _ _ h => h) (Or.inl ⟨by rfl, ?_⟩) ?_ ?_; rotate_left; exact zy; rotate_left; exact zput
      refine pure_ (i := 7) (N := some 119) (v := ?_) (a' := ?_) #[T,T,T,T,F,T,T,T,F,F,F] rfl rfl (any_of HT_.out (by kernel_rfl)) (fun _ _ _ h => h) (Or.inl ⟨by rfl, ?_⟩) ?_ ?_; rotate_left; exact zy; rotate_left; exact zput
      refine pure_ (i := 8) (N := some 120) (v := ?_) (a' := ?_) #[T,T,T,T,F,T,T,T,T,F,F] rfl rfl (any_of HT_.out (by kernel_rfl)) (fun _ _ _ h => h) (Or.inl ⟨by rfl, ?_⟩) ?_ ?_; rotate_left; exact zy; rotate_left; exact zput
      refine take_ (i := 4) (N := some 116) (v := ?_) (a' := ?_) #[T,T,T,T,T,T,T,T,T,F,F] rfl rfl (take_ofW HT_.out HW_.out (by kernel_rfl)) (fun _ _ _ h => h) (Or.inl ⟨by rfl, ?_⟩) hHeld ?_ ?_; rotate_left; exact zt4; rotate_left; exact zput
      refine take_ (i := 9) (N := some 121) (v := ?_) (a' := ?_) #[T,T,T,T,T,T,T,T,T,T,F] rfl rfl (take_ofW HT_.out HW_.out (by kernel_rfl)) (fun _ _ _ h => h) (Or.inl ⟨by rfl, ?_⟩) hHeld ?_ ?_; rotate_left; exact zt4; rotate_left; exact zput
      refine pure_ (i := 10) (N := some 122) (v := ?_) (a' := ?_) #[T,T,T,T,T,T,T,T,T,T,T] rfl rfl (any_of HT_.out (by kernel_rfl)) (fun _ _ _ h => h) (Or.inl ⟨by rfl, ?_⟩) ?_ ?_; rotate_left; exact zy; rotate_left; exact zput
      refine done_ (done_of HT_.out (by kernel_rfl)) ?_
      try go_wp2_with (first | ((with_reducible refine gate_dst (N := 123) rfl ?_); refine Kd.R_lit k110 _ 110 ?hg (N := 123) ?hd (xs := ([] : List (S110))) (inner := []) (ok := fun _ => True) (okp := fun _ => True) ?hr ?hp (fun _ hk => hk) trivial (Below.refl _ _) (Nat.le_refl _) (by simp) ?_; (case hd => rfl); (case hg => rfl); (case hr => first | (go_simp; done) | (go_simp; rfl)); (case hp => exact (Reps.none _ _)); intro v212 w99 ho100 hb hg_ hnew_; clear hg_ hnew_; (first | rw [← Ny211.out] at ho100 | (simp only [Int.reduceToNat] at ho100; rw [← Ny211.out] at ho100)); have n0_ := zA (Kd.R_elder' (zr HO_4) (Kd.R_base ho100) hb); have n1_ := zA (Kd.R_lower (Kd.R_new' ho100 (Kd.R_lt (zr HO_4))) (below_size (zs1 HB GE176))); have n2_ := zb BK176 hb; have n3_ := zA (below_step (zs1 HB GE176) hb); clear HO_4; clear BK176; clear HB; have HO_4 := n0_; have HO213 := n1_; have BK176 := n2_; have HB := n3_; clear n0_ n1_ n2_ n3_; clear hb ho100))
      go_ret2
      exact ⟨_, by first | rfl | (simp [errW_none, errW_some] <;> rfl) | (simp only [← hji81]; first | rfl | (simp [errW_none, errW_some] <;> rfl)) | (simp [*, errW_none, errW_some] <;> rfl), by (with_reducible repeat (first | apply Kd.R_alloc | apply Kd.R_drewN | apply Kd.R_drew)); exact Kd.R_mono HO213.out (fun _ hk => trivial), zs1 HB GE176⟩
   rw [if_pos c6] at H
   have c6b0 : decide (x6_1 ≤ (l0_2.length : Int)) = true := decide_eq_true c6
   clear c6
   replace H := Option.bind_eq_some_iff.mp H
   obtain ⟨t180, A70, H⟩ := H
   replace H : ((spec_l23High.f a0_0 a0_1 l0_2 a0_3 a0_4 x6_1).bind fun t181 => (if x6_1 > 0 then (if 0 ≤ (wrap64 (x6_1 - 1)) then (if (wrap64 (x6_1 - 1)) < (x4_1.length : Int) then ((spec_l21Max.f t180 (wrap64 (((rd_T110 x4_1 (wrap64 (x6_1 - 1))).f0) + a0_0))).bind fun t184 => ((spec_l23Most.f a0_0 a0_1 l0_2 a0_3 a0_4 (wrap64 (x6_1 - 1))).bind fun t186 => ((spec_l21Min.f t181 (wrap64 (((rd_T110 x4_1 (wrap64 (x6_1 - 1))).f1) + t186))).bind fun t187 => (if t184 > t187 then (some ((([] : List (S110))), false)) else (if x4_1.length < 8796093022208 then (spec_l24Spans.l0 k1 (x4_1 ++ [(⟨t184, t187⟩ : S110)]) (l0_2.length : Int) (wrap64 (x6_1 + 1)) a0_0 a0_1 l0_2 a0_3 a0_4) else (none)))))) else (none)) else (none)) else (if t180 > t181 then (some ((([] : List (S110))), false)) else (if x4_1.length < 8796093022208 then (spec_l24Spans.l0 k1 (x4_1 ++ [(⟨t180, t181⟩ : S110)]) (l0_2.length : Int) (wrap64 (x6_1 + 1)) a0_0 a0_1 l0_2 a0_3 a0_4) else (none))))) = some (r1, r2) := H
   have A7 := zA A70
   clear A70
   replace H := Option.bind_eq_some_iff.mp H
   obtain ⟨t181, A80, H⟩ := H
   replace H : (if x6_1 > 0 then (if 0 ≤ (wrap64 (x6_1 - 1)) then (if (wrap64 (x6_1 - 1)) < (x4_1.length : Int) then ((spec_l21Max.f t180 (wrap64 (((rd_T110 x4_1 (wrap64 (x6_1 - 1))).f0) + a0_0))).bind fun t184 => ((spec_l23Most.f a0_0 a0_1 l0_2 a0_3 a0_4 (wrap64 (x6_1 - 1))).bind fun t186 => ((spec_l21Min.f t181 (wrap64 (((rd_T110 x4_1 (wrap64 (x6_1 - 1))).f1) + t186))).bind fun t187 => (if t184 > t187 then (some ((([] : List (S110))), false)) else (if x4_1.length < 8796093022208 then (spec_l24Spans.l0 k1 (x4_1 ++ [(⟨t184, t187⟩ : S110)]) (l0_2.length : Int) (wrap64 (x6_1 + 1)) a0_0 a0_1 l0_2 a0_3 a0_4) else (none)))))) else (none)) else (none)) else (if t180 > t181 then (some ((([] : List (S110))), false)) else (if x4_1.length < 8796093022208 then (spec_l24Spans.l0 k1 (x4_1 ++ [(⟨t180, t181⟩ : S110)]) (l0_2.length : Int) (wrap64 (x6_1 + 1)) a0_0 a0_1 l0_2 a0_3 a0_4) else (none)))) = some (r1, r2) := H
   have A8 := zA A80
   clear A80
   by_cases c9 : x6_1 > 0
   rotate_left
   ·rw [if_neg c9] at H
    have c9b0 : decide (0 < x6_1) = false := decide_eq_false c9
    clear c9
    by_cases c55 : t180 > t181
    ·rw [if_pos c55] at H
     have c55b0 : decide (t181 < t180) = true := decide_eq_true c55
     clear c55
     obtain ⟨y194, hy194⟩ : ∃ y_ : List (S110), y_ = (([] : List (S110))) := ⟨_, rfl⟩
     replace H : (some (y194, false)) = some (r1, r2) := by first | (rw [hy194]; with_reducible exact H) | (have H2_ := (Option.bind_some _ _).symm.trans H; rw [hy194]; with_reducible exact H2_) | (have H2_ := (Option.bind_some _ _).symm.trans H; with_reducible exact H2_) | with_reducible exact H | (rw [hy194]; exact H) | exact H
     have Ny194 := zA hy194
     clear hy194
     simp only [Option.some.injEq, Prod.mk.injEq] at H
     obtain ⟨rfl, rfl⟩ := H
     try go_wp2
     have n0_ := zA (Kd.R_drew HO_4.out)
     have n1_ := zA (blk_drew BK176.out)
     have n2_ := zA (below_drew1 HB.out)
     clear HO_4 BK176 HB
     revert n0_ n1_ n2_
     intro HO_4 BK176 HB
     refine start_ (n := 9) (S := fun w' => w'.cell? ⟨gb176, 0, none⟩ = some (.int .i64 a0_0) ∧ w'.cell? ⟨gb176, 1, none⟩ = some (.int .i64 a0_1) ∧ w'.cell? ⟨gb176, 2, none⟩ = some (.slice A0_2 l0_2.length c0_2) ∧ w'.cell? ⟨gb176, 3, none⟩ = some (.int .i64 a0_3) ∧ w'.cell? ⟨gb176, 4, none⟩ = some (.int .i64 a0_4)) (ds := []) #[F,F,F,F,F,F,F,F,F] (by kernel_rfl) rfl rfl ⟨(blk_cell BK176.out 0).trans rfl, (blk_cell BK176.out 1).trans rfl, (blk_cell BK176.out 2).trans rfl, (blk_cell BK176.out 3).trans rfl, (blk_cell BK176.out 4).trans rfl⟩ (fun hHeld => ?_); refine with_tabW spec_l24Spans.tab6 spec_l24Spans.bits6 (fun HT_ HW_ => ?_)
     generalize wr.drew = w56 at HO_4 BK176 HB hHeld ⊢
     refine pure_ (i := 1) (N := some 19) (v := ?_) (a' := ?_) #[F,T,F,F,F,F,F,F,F] rfl rfl (any_of HT_.out (by kernel_rfl)) (fun _ _ _ h => h) (Or.inl ⟨by rfl, ?_⟩) ?_ ?_; rotate_left; exact zy; rotate_left; exact zput
     refine pure_ (i := 4) (N := some 22) (v := ?_) (a' := ?_) #[F,T,F,F,T,F,F,F,F] rfl rfl (any_of HT_.out (by kernel_rfl)) (fun _ _ _ h => h) (Or.inl ⟨by rfl, ?_⟩) ?_ ?_; rotate_left; exact zy; rotate_left; exact zput
     refine take_ (i := 0) (N := some 18) (v := ?_) (a' := ?_) #[T,T,F,F,T,F,F,F,F] rfl rfl (take_ofW HT_.out HW_.out (by kernel_rfl)) (fun _ _ _ h => h) (Or.inl ⟨by rfl, ?_⟩) hHeld ?_ ?_; rotate_left; exact zt5; rotate_left; exact zput
     refine take_ (i := 3) (N := some 21) (v := ?_) (a' := ?_) #[T,T,F,T,T,F,F,F,F] rfl rfl (take_ofW HT_.out HW_.out (by kernel_rfl)) (fun _ _ _ h => h) (Or.inl ⟨by rfl, ?_⟩) hHeld ?_ ?_; rotate_left; exact zt5; rotate_left; exact zput
     refine join_ (σ := Nat) 1 #[T,T,T,T,T,T,T,T,F] (fun s_ => [(20, .int .i64 t180), (23, .int .i64 t181), (7, .pointer (some ⟨s_, 0, none⟩)), (24, .agg #[.int .i64 t180, .int .i64 t181])]) (fun s_ w' => (w'.cell? ⟨gb176, 0, none⟩ = some (.int .i64 a0_0) ∧ w'.cell? ⟨gb176, 1, none⟩ = some (.int .i64 a0_1) ∧ w'.cell? ⟨gb176, 2, none⟩ = some (.slice A0_2 l0_2.length c0_2) ∧ w'.cell? ⟨gb176, 3, none⟩ = some (.int .i64 a0_3) ∧ w'.cell? ⟨gb176, 4, none⟩ = some (.int .i64 a0_4)) ∧ (Kd.R k110 110 w' w.heap.size (fun k_ => k_ ≠ s_) u4 x4_1) ∧ (w'.heap[gb176]? = some (.cells #[.int .i64 a0_0, .int .i64 a0_1, .slice A0_2 l0_2.length c0_2, .int .i64 a0_3, .int .i64 a0_4] 68 (0, 0))) ∧ (w'.heap[s_]? = some (.cells #[.int .i64 0, .int .i64 0] 110 (0, 0))) ∧ (w.heap.size ≤ s_) ∧ (w.heap.size ≤ s_) ∧ (gb176 ≠ s_) ∧ (s_ ≠ gb176) ∧ (Below w.heap.size w w')) ?_ ?_
     rotate_left
     ·intro hCont
      refine two_ (i := 2) (j := 7) (Ni := some 20) (Nj := some 7) #[T,T,T,T,T,F,F,F,F] #[T,T,F,T,T,F,F,T,F] rfl rfl rfl rfl (two_of HT_.out (by kernel_rfl)) (by decide) (by decide) (fun K hK => ?_) (fun K hK => ?_)
      ·skip
       refine goes_ Try.func152 (by kernel_rfl) rfl #[.agg #[.int .i64 a0_0, .int .i64 a0_1, .slice A0_2 l0_2.length c0_2, .int .i64 a0_3, .int .i64 a0_4], .int .i64 x6_1] (by rfl) rfl rfl zl ?_
       with_reducible refine (spec_l23Low.calls a0_0 a0_1 _ _ l0_2 a0_3 a0_4 x6_1 t180 _ ?side1 ?side2 A7.out).mono ?_
       (case side1 => exact zC HR0_2 HB)
       (case side2 => exact HC0_2.out)
       rintro e w57 ⟨rfl, hb⟩
       refine ⟨_, rfl, ?_⟩
       have n0_ := zA (Kd.R_below (zr HO_4) hb)
       have n1_ := zb BK176 hb
       have n2_ := zA (below_step (zs1 HB GE176) hb)
       clear HO_4 BK176 HB
       revert n0_ n1_ n2_
       intro HO_4 BK176 HB
       (try clear hb)
       (try clear hb2)
       (try clear hk)
       (try clear hi)
       refine hK.out _ _ ⟨(blk_cell BK176.out 0).trans rfl, (blk_cell BK176.out 1).trans rfl, (blk_cell BK176.out 2).trans rfl, (blk_cell BK176.out 3).trans rfl, (blk_cell BK176.out 4).trans rfl⟩ (fun hHeld => ?_)
       clear hK K
       refine norm_ (a' := ?_) ?_ ?_
       rotate_left
       ·show Act.put _ (some 20) _ = _
        simp only [Act.put, List.setIfInBounds_toArray, List.set_cons_zero, List.set_cons_succ, i64_w, i32_w]
        rfl
       refine two_ (i := 5) (j := 7) (Ni := some 23) (Nj := some 7) #[T,T,T,T,T,T,F,F,F] #[T,T,T,T,T,F,F,T,F] rfl rfl rfl rfl (two_of HT_.out (by kernel_rfl)) (by decide) (by decide) (fun K hK => ?_) (fun K hK => ?_)
       ·skip
        refine goes_ Try.func153 (by kernel_rfl) rfl #[.agg #[.int .i64 a0_0, .int .i64 a0_1, .slice A0_2 l0_2.length c0_2, .int .i64 a0_3, .int .i64 a0_4], .int .i64 x6_1] (by rfl) rfl rfl zl ?_
        with_reducible refine (spec_l23High.calls a0_0 a0_1 _ _ l0_2 a0_3 a0_4 x6_1 t181 _ ?side1 ?side2 A8.out).mono ?_
        (case side1 => exact zC HR0_2 HB)
        (case side2 => exact HC0_2.out)
        rintro e w58 ⟨rfl, hb⟩
        refine ⟨_, rfl, ?_⟩
        have n0_ := zA (Kd.R_below (zr HO_4) hb)
        have n1_ := zb BK176 hb
        have n2_ := zA (below_step (zs1 HB GE176) hb)
        clear HO_4 BK176 HB
        revert n0_ n1_ n2_
        intro HO_4 BK176 HB
        (try clear hb)
        (try clear hb2)
        (try clear hk)
        (try clear hi)
        refine hK.out _ _ ⟨(blk_cell BK176.out 0).trans rfl, (blk_cell BK176.out 1).trans rfl, (blk_cell BK176.out 2).trans rfl, (blk_cell BK176.out 3).trans rfl, (blk_cell BK176.out 4).trans rfl⟩ (fun hHeld => ?_)
        clear hK K
        refine norm_ (a' := ?_) ?_ ?_
        rotate_left
        ·show Act.put _ (some 23) _ = _
         simp only [Act.put, List.setIfInBounds_toArray, List.set_cons_zero, List.set_cons_succ, i64_w, i32_w]
         rfl
        refine pure_ (i := 6) (N := some 24) (v := ?_) (a' := ?_) #[T,T,T,T,T,T,T,F,F] rfl rfl (any_of HT_.out (by kernel_rfl)) (fun _ _ _ h => h) (Or.inl ⟨by rfl, ?_⟩) ?_ ?_; rotate_left; exact zy; rotate_left; exact zput
        refine one_ (i := 7) (N := some 7) #[T,T,T,T,T,T,T,T,F] rfl rfl (one_of HT_.out (by kernel_rfl)) (by decide) (fun K hK => ?_)
        refine box_step (by rfl) (N := 7) (by rfl) (cs := #[.int .i64 0, .int .i64 0]) (t := 110) zg ?_
        intro gb182 hg w59 hbox hb
        have n0_ := zA (Kd.R_below (Kd.R_elderB (zr HO_4) gb182 (Nat.le_of_eq hg.symm)) hb)
        have n1_ := zb BK176 hb
        have n2_ := zA (below_step (zs1 HB GE176) hb)
        have n3_ := zA (hbox)
        have n4_ := zA ((by rw [hg]; exact (below_size (zs1 HB GE176)) : w.heap.size ≤ gb182))
        have n5_ := zA ((by rw [hg]; exact (below_size (zs1 HB GE176)) : w.heap.size ≤ gb182))
        have n6_ := zA ((by rw [hg]; exact Nat.ne_of_lt (blk_lt (g := gb176) (o := .cells #[.int .i64 a0_0, .int .i64 a0_1, .slice A0_2 l0_2.length c0_2, .int .i64 a0_3, .int .i64 a0_4] 68 (0, 0)) (zh BK176)) : gb176 ≠ gb182))
        have n7_ := zA ((by rw [hg]; exact Nat.ne_of_gt (blk_lt (g := gb176) (o := .cells #[.int .i64 a0_0, .int .i64 a0_1, .slice A0_2 l0_2.length c0_2, .int .i64 a0_3, .int .i64 a0_4] 68 (0, 0)) (zh BK176)) : gb182 ≠ gb176))
        clear HO_4
        clear BK176
        clear HB
        have HO_4 := n0_
        have BK176 := n1_
        have HB := n2_
        have BK182 := n3_
        have GW182 := n4_
        have GE182 := n5_
        have NB176_182 := n6_
        have NB182_176 := n7_
        clear n0_ n1_ n2_ n3_ n4_ n5_ n6_ n7_
        clear hb hbox hg
        refine hK.out _ _ ⟨(blk_cell BK176.out 0).trans rfl, (blk_cell BK176.out 1).trans rfl, (blk_cell BK176.out 2).trans rfl, (blk_cell BK176.out 3).trans rfl, (blk_cell BK176.out 4).trans rfl⟩ (fun hHeld => ?_)
        clear hK K
        refine norm_ (a' := ?_) ?_ ?_
        rotate_left
        ·show Act.put _ (some 7) _ = _
         simp only [Act.put, List.setIfInBounds_toArray, List.set_cons_zero, List.set_cons_succ, i64_w, i32_w]
         rfl
        exact norm_ (by simp only [putAll, Act.put, List.setIfInBounds_toArray, List.set_cons_zero, List.set_cons_succ]) (hCont (gb182) _ ⟨hHeld, (by (with_reducible repeat (first | apply Kd.R_alloc | apply Kd.R_drewN | apply Kd.R_drew)); exact Kd.R_mono HO_4.out (fun _ hk => hk.2)), (zh BK176), (zh BK182), GW182.out, GE182.out, NB176_182.out, NB182_176.out, (zs2 HB GE176 GE182)⟩)
       ·skip
        refine box_step (by rfl) (N := 7) (by rfl) (cs := #[.int .i64 0, .int .i64 0]) (t := 110) zg ?_
        intro gb182 hg w58 hbox hb
        have n0_ := zA (Kd.R_below (Kd.R_elderB (zr HO_4) gb182 (Nat.le_of_eq hg.symm)) hb)
        have n1_ := zb BK176 hb
        have n2_ := zA (below_step (zs1 HB GE176) hb)
        have n3_ := zA (hbox)
        have n4_ := zA ((by rw [hg]; exact (below_size (zs1 HB GE176)) : w.heap.size ≤ gb182))
        have n5_ := zA ((by rw [hg]; exact (below_size (zs1 HB GE176)) : w.heap.size ≤ gb182))
        have n6_ := zA ((by rw [hg]; exact Nat.ne_of_lt (blk_lt (g := gb176) (o := .cells #[.int .i64 a0_0, .int .i64 a0_1, .slice A0_2 l0_2.length c0_2, .int .i64 a0_3, .int .i64 a0_4] 68 (0, 0)) (zh BK176)) : gb176 ≠ gb182))
        have n7_ := zA ((by rw [hg]; exact Nat.ne_of_gt (blk_lt (g := gb176) (o := .cells #[.int .i64 a0_0, .int .i64 a0_1, .slice A0_2 l0_2.length c0_2, .int .i64 a0_3, .int .i64 a0_4] 68 (0, 0)) (zh BK176)) : gb182 ≠ gb176))
        clear HO_4
        clear BK176
        clear HB
        have HO_4 := n0_
        have BK176 := n1_
        have HB := n2_
        have BK182 := n3_
        have GW182 := n4_
        have GE182 := n5_
        have NB176_182 := n6_
        have NB182_176 := n7_
        clear n0_ n1_ n2_ n3_ n4_ n5_ n6_ n7_
        clear hb hbox hg
        refine hK.out _ _ ⟨(blk_cell BK176.out 0).trans rfl, (blk_cell BK176.out 1).trans rfl, (blk_cell BK176.out 2).trans rfl, (blk_cell BK176.out 3).trans rfl, (blk_cell BK176.out 4).trans rfl⟩ (fun hHeld => ?_)
        clear hK K
        refine norm_ (a' := ?_) ?_ ?_
        rotate_left
        ·show Act.put _ (some 7) _ = _
         simp only [Act.put, List.setIfInBounds_toArray, List.set_cons_zero, List.set_cons_succ, i64_w, i32_w]
         rfl
        refine one_ (i := 5) (N := some 23) #[T,T,T,T,T,T,F,T,F] rfl rfl (one_of HT_.out (by kernel_rfl)) (by decide) (fun K hK => ?_)
        refine goes_ Try.func153 (by kernel_rfl) rfl #[.agg #[.int .i64 a0_0, .int .i64 a0_1, .slice A0_2 l0_2.length c0_2, .int .i64 a0_3, .int .i64 a0_4], .int .i64 x6_1] (by rfl) rfl rfl zl ?_
        with_reducible refine (spec_l23High.calls a0_0 a0_1 _ _ l0_2 a0_3 a0_4 x6_1 t181 _ ?side1 ?side2 A8.out).mono ?_
        (case side1 => exact zC HR0_2 HB)
        (case side2 => exact HC0_2.out)
        rintro e w59 ⟨rfl, hb⟩
        refine ⟨_, rfl, ?_⟩
        have n0_ := zA (Kd.R_below (zr HO_4) hb)
        have n1_ := zb BK176 hb
        have n2_ := zb BK182 hb
        have n3_ := zA (below_step (zs2 HB GE176 GE182) hb)
        clear HO_4 BK176 BK182 HB
        revert n0_ n1_ n2_ n3_
        intro HO_4 BK176 BK182 HB
        (try clear hb)
        (try clear hb2)
        (try clear hk)
        (try clear hi)
        refine hK.out _ _ ⟨(blk_cell BK176.out 0).trans rfl, (blk_cell BK176.out 1).trans rfl, (blk_cell BK176.out 2).trans rfl, (blk_cell BK176.out 3).trans rfl, (blk_cell BK176.out 4).trans rfl⟩ (fun hHeld => ?_)
        clear hK K
        refine norm_ (a' := ?_) ?_ ?_
        rotate_left
        ·show Act.put _ (some 23) _ = _
         simp only [Act.put, List.setIfInBounds_toArray, List.set_cons_zero, List.set_cons_succ, i64_w, i32_w]
         rfl
        refine pure_ (i := 6) (N := some 24) (v := ?_) (a' := ?_) #[T,T,T,T,T,T,T,T,F] rfl rfl (any_of HT_.out (by kernel_rfl)) (fun _ _ _ h => h) (Or.inl ⟨by rfl, ?_⟩) ?_ ?_; rotate_left; exact zy; rotate_left; exact zput
        exact norm_ (by simp only [putAll, Act.put, List.setIfInBounds_toArray, List.set_cons_zero, List.set_cons_succ]) (hCont (gb182) _ ⟨hHeld, (by (with_reducible repeat (first | apply Kd.R_alloc | apply Kd.R_drewN | apply Kd.R_drew)); exact Kd.R_mono HO_4.out (fun _ hk => hk.2)), (zh BK176), (zh BK182), GW182.out, GE182.out, NB176_182.out, NB182_176.out, (zs2 HB GE176 GE182)⟩)
      ·skip
       refine box_step (by rfl) (N := 7) (by rfl) (cs := #[.int .i64 0, .int .i64 0]) (t := 110) zg ?_
       intro gb182 hg w57 hbox hb
       have n0_ := zA (Kd.R_below (Kd.R_elderB (zr HO_4) gb182 (Nat.le_of_eq hg.symm)) hb)
       have n1_ := zb BK176 hb
       have n2_ := zA (below_step (zs1 HB GE176) hb)
       have n3_ := zA (hbox)
       have n4_ := zA ((by rw [hg]; exact (below_size (zs1 HB GE176)) : w.heap.size ≤ gb182))
       have n5_ := zA ((by rw [hg]; exact (below_size (zs1 HB GE176)) : w.heap.size ≤ gb182))
       have n6_ := zA ((by rw [hg]; exact Nat.ne_of_lt (blk_lt (g := gb176) (o := .cells #[.int .i64 a0_0, .int .i64 a0_1, .slice A0_2 l0_2.length c0_2, .int .i64 a0_3, .int .i64 a0_4] 68 (0, 0)) (zh BK176)) : gb176 ≠ gb182))
       have n7_ := zA ((by rw [hg]; exact Nat.ne_of_gt (blk_lt (g := gb176) (o := .cells #[.int .i64 a0_0, .int .i64 a0_1, .slice A0_2 l0_2.length c0_2, .int .i64 a0_3, .int .i64 a0_4] 68 (0, 0)) (zh BK176)) : gb182 ≠ gb176))
       clear HO_4
       clear BK176
       clear HB
       have HO_4 := n0_
       have BK176 := n1_
       have HB := n2_
       have BK182 := n3_
       have GW182 := n4_
       have GE182 := n5_
       have NB176_182 := n6_
       have NB182_176 := n7_
       clear n0_ n1_ n2_ n3_ n4_ n5_ n6_ n7_
       clear hb hbox hg
       refine hK.out _ _ ⟨(blk_cell BK176.out 0).trans rfl, (blk_cell BK176.out 1).trans rfl, (blk_cell BK176.out 2).trans rfl, (blk_cell BK176.out 3).trans rfl, (blk_cell BK176.out 4).trans rfl⟩ (fun hHeld => ?_)
       clear hK K
       refine norm_ (a' := ?_) ?_ ?_
       rotate_left
       ·show Act.put _ (some 7) _ = _
        simp only [Act.put, List.setIfInBounds_toArray, List.set_cons_zero, List.set_cons_succ, i64_w, i32_w]
        rfl
       refine one_ (i := 2) (N := some 20) #[T,T,T,T,T,F,F,T,F] rfl rfl (one_of HT_.out (by kernel_rfl)) (by decide) (fun K hK => ?_)
       refine goes_ Try.func152 (by kernel_rfl) rfl #[.agg #[.int .i64 a0_0, .int .i64 a0_1, .slice A0_2 l0_2.length c0_2, .int .i64 a0_3, .int .i64 a0_4], .int .i64 x6_1] (by rfl) rfl rfl zl ?_
       with_reducible refine (spec_l23Low.calls a0_0 a0_1 _ _ l0_2 a0_3 a0_4 x6_1 t180 _ ?side1 ?side2 A7.out).mono ?_
       (case side1 => exact zC HR0_2 HB)
       (case side2 => exact HC0_2.out)
       rintro e w58 ⟨rfl, hb⟩
       refine ⟨_, rfl, ?_⟩
       have n0_ := zA (Kd.R_below (zr HO_4) hb)
       have n1_ := zb BK176 hb
       have n2_ := zb BK182 hb
       have n3_ := zA (below_step (zs2 HB GE176 GE182) hb)
       clear HO_4 BK176 BK182 HB
       revert n0_ n1_ n2_ n3_
       intro HO_4 BK176 BK182 HB
       (try clear hb)
       (try clear hb2)
       (try clear hk)
       (try clear hi)
       refine hK.out _ _ ⟨(blk_cell BK176.out 0).trans rfl, (blk_cell BK176.out 1).trans rfl, (blk_cell BK176.out 2).trans rfl, (blk_cell BK176.out 3).trans rfl, (blk_cell BK176.out 4).trans rfl⟩ (fun hHeld => ?_)
       clear hK K
       refine norm_ (a' := ?_) ?_ ?_
       rotate_left
       ·show Act.put _ (some 20) _ = _
        simp only [Act.put, List.setIfInBounds_toArray, List.set_cons_zero, List.set_cons_succ, i64_w, i32_w]
        rfl
       refine one_ (i := 5) (N := some 23) #[T,T,T,T,T,T,F,T,F] rfl rfl (one_of HT_.out (by kernel_rfl)) (by decide) (fun K hK => ?_)
       refine goes_ Try.func153 (by kernel_rfl) rfl #[.agg #[.int .i64 a0_0, .int .i64 a0_1, .slice A0_2 l0_2.length c0_2, .int .i64 a0_3, .int .i64 a0_4], .int .i64 x6_1] (by rfl) rfl rfl zl ?_
       with_reducible refine (spec_l23High.calls a0_0 a0_1 _ _ l0_2 a0_3 a0_4 x6_1 t181 _ ?side1 ?side2 A8.out).mono ?_
       (case side1 => exact zC HR0_2 HB)
       (case side2 => exact HC0_2.out)
       rintro e w59 ⟨rfl, hb⟩
       refine ⟨_, rfl, ?_⟩
       have n0_ := zA (Kd.R_below (zr HO_4) hb)
       have n1_ := zb BK176 hb
       have n2_ := zb BK182 hb
       have n3_ := zA (below_step (zs2 HB GE176 GE182) hb)
       clear HO_4 BK176 BK182 HB
       revert n0_ n1_ n2_ n3_
       intro HO_4 BK176 BK182 HB
       (try clear hb)
       (try clear hb2)
       (try clear hk)
       (try clear hi)
       refine hK.out _ _ ⟨(blk_cell BK176.out 0).trans rfl, (blk_cell BK176.out 1).trans rfl, (blk_cell BK176.out 2).trans rfl, (blk_cell BK176.out 3).trans rfl, (blk_cell BK176.out 4).trans rfl⟩ (fun hHeld => ?_)
       clear hK K
       refine norm_ (a' := ?_) ?_ ?_
       rotate_left
       ·show Act.put _ (some 23) _ = _
        simp only [Act.put, List.setIfInBounds_toArray, List.set_cons_zero, List.set_cons_succ, i64_w, i32_w]
        rfl
       refine pure_ (i := 6) (N := some 24) (v := ?_) (a' := ?_) #[T,T,T,T,T,T,T,T,F] rfl rfl (any_of HT_.out (by kernel_rfl)) (fun _ _ _ h => h) (Or.inl ⟨by rfl, ?_⟩) ?_ ?_; rotate_left; exact zy; rotate_left; exact zput
       exact norm_ (by simp only [putAll, Act.put, List.setIfInBounds_toArray, List.set_cons_zero, List.set_cons_succ]) (hCont (gb182) _ ⟨hHeld, (by (with_reducible repeat (first | apply Kd.R_alloc | apply Kd.R_drewN | apply Kd.R_drew)); exact Kd.R_mono HO_4.out (fun _ hk => hk.2)), (zh BK176), (zh BK182), GW182.out, GE182.out, NB176_182.out, NB182_176.out, (zs2 HB GE176 GE182)⟩)
     rintro gb182 w60 ⟨hS_, h0_, h1_, h2_, h3_, h4_, h5_, h6_, h7_⟩
     have n0_ : Aside0 (Kd.R k110 110 w60 w.heap.size (fun k_ => k_ ≠ gb182) u4 x4_1) := ⟨h0_⟩
     have n1_ : Aside0 (w60.heap[gb176]? = some (.cells #[.int .i64 a0_0, .int .i64 a0_1, .slice A0_2 l0_2.length c0_2, .int .i64 a0_3, .int .i64 a0_4] 68 (0, 0))) := ⟨h1_⟩
     have n2_ : Aside0 (w60.heap[gb182]? = some (.cells #[.int .i64 0, .int .i64 0] 110 (0, 0))) := ⟨h2_⟩
     have n3_ : Aside0 (w.heap.size ≤ gb182) := ⟨h3_⟩
     have n4_ : Aside0 (w.heap.size ≤ gb182) := ⟨h4_⟩
     have n5_ : Aside0 (gb176 ≠ gb182) := ⟨h5_⟩
     have n6_ : Aside0 (gb182 ≠ gb176) := ⟨h6_⟩
     have n7_ : Aside0 (Below w.heap.size w w60) := ⟨h7_⟩
     clear HO_4
     clear BK176
     clear HB
     clear h0_ h1_ h2_ h3_ h4_ h5_ h6_ h7_
     have HO_4 := n0_
     have BK176 := n1_
     have BK182 := n2_
     have GW182 := n3_
     have GE182 := n4_
     have NB176_182 := n5_
     have NB182_176 := n6_
     have HB := n7_
     clear n0_ n1_ n2_ n3_ n4_ n5_ n6_ n7_
     have hHeld : w60.cell? ⟨gb176, 0, none⟩ = some (.int .i64 a0_0) ∧ w60.cell? ⟨gb176, 1, none⟩ = some (.int .i64 a0_1) ∧ w60.cell? ⟨gb176, 2, none⟩ = some (.slice A0_2 l0_2.length c0_2) ∧ w60.cell? ⟨gb176, 3, none⟩ = some (.int .i64 a0_3) ∧ w60.cell? ⟨gb176, 4, none⟩ = some (.int .i64 a0_4) := hS_
     refine norm_ (a' := ?_) ?_ ?_
     rotate_left
     ·simp only [putAll, Act.put, List.setIfInBounds_toArray, List.set_cons_zero, List.set_cons_succ]
      rfl
     refine one_ (i := 8) (N := none) #[T,T,T,T,T,T,T,T,T] rfl rfl (one_of HT_.out (by kernel_rfl)) (by decide) (fun K hK => ?_)
     have hs61 : w60.cell? ⟨gb182, 0, none⟩ = some (.int .i64 0) := (blk_cell BK182.out 0).trans rfl
     have hfs61 := zf BK182 0
     have hns61_0 := NB176_182.out
     have hms61_0 := NB182_176.out
     have hs62 : w60.cell? ⟨gb182, 1, none⟩ = some (.int .i64 0) := (blk_cell BK182.out 1).trans rfl
     have hfs62 := zf BK182 1
     have hns62_0 := NB176_182.out
     have hms62_0 := NB182_176.out
     refine skip_ (w1 := ?_) (by rfl) rfl ?_ ?_
     rotate_left
     ·go_simp
      rfl
     refine hK.out _ _ ⟨((cell_far (p := ⟨gb182, _, none⟩) NB176_182.out _).trans (((cell_far (p := ⟨gb182, _, none⟩) NB176_182.out _).trans (hHeld.1)))), ((cell_far (p := ⟨gb182, _, none⟩) NB176_182.out _).trans (((cell_far (p := ⟨gb182, _, none⟩) NB176_182.out _).trans (hHeld.2.1)))), ((cell_far (p := ⟨gb182, _, none⟩) NB176_182.out _).trans (((cell_far (p := ⟨gb182, _, none⟩) NB176_182.out _).trans (hHeld.2.2.1)))), ((cell_far (p := ⟨gb182, _, none⟩) NB176_182.out _).trans (((cell_far (p := ⟨gb182, _, none⟩) NB176_182.out _).trans (hHeld.2.2.2.1)))), ((cell_far (p := ⟨gb182, _, none⟩) NB176_182.out _).trans (((cell_far (p := ⟨gb182, _, none⟩) NB176_182.out _).trans (hHeld.2.2.2.2))))⟩ (fun hHeld => ?_)
     clear hK K
     refine done_ (done_of HT_.out (by kernel_rfl)) ?_
     have hnb63 := NB182_176.out
     have hnc63 := NB176_182.out
     obtain ⟨hcz64_0, hcz64_1⟩ := zd2 BK182
     obtain ⟨hfz64_0, hfz64_1⟩ := zn2 BK182
     try go_wp2_with (first | ((with_reducible refine gate_dst (N := 61) rfl ?_); refine Kd.R_lit k110 _ 110 ?hg (N := 61) ?hd (xs := ([] : List (S110))) (inner := []) (ok := fun _ => True) (okp := fun _ => True) ?hr ?hp (fun _ hk => hk) trivial (Below.refl _ _) (Nat.le_refl _) (by simp) ?_; (case hd => rfl); (case hg => rfl); (case hr => first | (go_simp; done) | (go_simp; rfl)); (case hp => exact (Reps.none _ _)); intro v195 w65 ho66 hb hg_ hnew_; clear hg_ hnew_; (first | rw [← Ny194.out] at ho66 | (simp only [Int.reduceToNat] at ho66; rw [← Ny194.out] at ho66)); have n0_ := zA (Kd.R_elder' (by (with_reducible repeat (first | apply Kd.R_alloc | apply Kd.R_drewN | apply Kd.R_drew)); exact (Kd.R_mono (Kd.R_far (p := ⟨gb182, 1, none⟩) (Kd.R_far (p := ⟨gb182, 0, none⟩) (Kd.R_mono HO_4.out (fun k_ hk => (⟨hk, hk⟩ : _ ∧ k_ ≠ gb182))) (fun _ hk => hk.2) (.int .i64 t180)) (fun _ hk => hk.2) (.int .i64 t181)) (fun _ h_ => h_.1))) (Kd.R_base ho66) hb); have n1_ := zA (Kd.R_lower (Kd.R_newB (Kd.R_new' ho66 (Kd.R_lt (by (with_reducible repeat (first | apply Kd.R_alloc | apply Kd.R_drewN | apply Kd.R_drew)); exact (Kd.R_mono (Kd.R_far (p := ⟨gb182, 1, none⟩) (Kd.R_far (p := ⟨gb182, 0, none⟩) (Kd.R_mono HO_4.out (fun k_ hk => (⟨hk, hk⟩ : _ ∧ k_ ≠ gb182))) (fun _ hk => hk.2) (.int .i64 t180)) (fun _ hk => hk.2) (.int .i64 t181)) (fun _ h_ => h_.1))))) (g := gb182) (o := .cells #[.int .i64 t180, .int .i64 t181] 110 (0, 0)) (by (with_reducible repeat (first | refine blk_drewN ?_ _ | refine blk_drew ?_ | refine blk_alloc ?_ _)); refine blk_put (cs := #[.int .i64 t180, .int .i64 0]) ?_ 1 _ rfl; (with_reducible repeat (first | refine blk_drewN ?_ _ | refine blk_drew ?_ | refine blk_alloc ?_ _)); refine blk_put (cs := #[.int .i64 0, .int .i64 0]) ?_ 0 _ rfl; (with_reducible repeat (first | refine blk_drewN ?_ _ | refine blk_drew ?_ | refine blk_alloc ?_ _)); exact BK182.out)) (below_size (zs2 HB GE176 GE182))); have n2_ := zA (blk_below (g := gb176) (o := .cells #[.int .i64 a0_0, .int .i64 a0_1, .slice A0_2 l0_2.length c0_2, .int .i64 a0_3, .int .i64 a0_4] 68 (0, 0)) (by (with_reducible repeat (first | refine blk_drewN ?_ _ | refine blk_drew ?_ | refine blk_alloc ?_ _)); refine blk_far ?_ NB176_182.out _; (with_reducible repeat (first | refine blk_drewN ?_ _ | refine blk_drew ?_ | refine blk_alloc ?_ _)); refine blk_far ?_ NB176_182.out _; (with_reducible repeat (first | refine blk_drewN ?_ _ | refine blk_drew ?_ | refine blk_alloc ?_ _)); exact BK176.out) hb); have n3_ := zA (blk_below (g := gb182) (o := .cells #[.int .i64 t180, .int .i64 t181] 110 (0, 0)) (by (with_reducible repeat (first | refine blk_drewN ?_ _ | refine blk_drew ?_ | refine blk_alloc ?_ _)); refine blk_put (cs := #[.int .i64 t180, .int .i64 0]) ?_ 1 _ rfl; (with_reducible repeat (first | refine blk_drewN ?_ _ | refine blk_drew ?_ | refine blk_alloc ?_ _)); refine blk_put (cs := #[.int .i64 0, .int .i64 0]) ?_ 0 _ rfl; (with_reducible repeat (first | refine blk_drewN ?_ _ | refine blk_drew ?_ | refine blk_alloc ?_ _)); exact BK182.out) hb); have n4_ := zA (below_step (zs2 HB GE176 GE182) hb); clear HO_4; clear BK176; clear BK182; clear HB; have HO_4 := n0_; have HO196 := n1_; have BK176 := n2_; have BK182 := n3_; have HB := n4_; clear n0_ n1_ n2_ n3_ n4_; clear hb ho66))
     go_ret2
     exact ⟨_, ze, by (with_reducible repeat (first | apply Kd.R_alloc | apply Kd.R_drewN | apply Kd.R_drew)); exact Kd.R_mono HO196.out (fun _ hk => trivial), zs2 HB GE176 GE182⟩
    rw [if_neg c55] at H
    have c55b0 : decide (t181 < t180) = false := decide_eq_false c55
    clear c55
    by_cases c67 : x4_1.length < 8796093022208
    rotate_left
    ·rw [if_neg c67] at H
     exact absurd H (by simp)
    rw [if_pos c67] at H
    have LMc67 := zA c67
    clear c67
    obtain ⟨y197, hy197⟩ : ∃ y_ : List (S110), y_ = (x4_1 ++ [(⟨t180, t181⟩ : S110)]) := ⟨_, rfl⟩
    replace H : (spec_l24Spans.l0 k1 y197 (l0_2.length : Int) (wrap64 (x6_1 + 1)) a0_0 a0_1 l0_2 a0_3 a0_4) = some (r1, r2) := by first | (rw [hy197]; with_reducible exact H) | (have H2_ := (Option.bind_some _ _).symm.trans H; rw [hy197]; with_reducible exact H2_) | (have H2_ := (Option.bind_some _ _).symm.trans H; with_reducible exact H2_) | with_reducible exact H | (rw [hy197]; exact H) | exact H
    have Ny197 := zA hy197
    clear hy197
    have H' := zA H
    clear H
    try go_wp2
    have n0_ := zA (Kd.R_drew HO_4.out)
    have n1_ := zA (blk_drew BK176.out)
    have n2_ := zA (below_drew1 HB.out)
    clear HO_4 BK176 HB
    revert n0_ n1_ n2_
    intro HO_4 BK176 HB
    refine start_ (n := 9) (S := fun w' => w'.cell? ⟨gb176, 0, none⟩ = some (.int .i64 a0_0) ∧ w'.cell? ⟨gb176, 1, none⟩ = some (.int .i64 a0_1) ∧ w'.cell? ⟨gb176, 2, none⟩ = some (.slice A0_2 l0_2.length c0_2) ∧ w'.cell? ⟨gb176, 3, none⟩ = some (.int .i64 a0_3) ∧ w'.cell? ⟨gb176, 4, none⟩ = some (.int .i64 a0_4)) (ds := []) #[F,F,F,F,F,F,F,F,F] (by kernel_rfl) rfl rfl ⟨(blk_cell BK176.out 0).trans rfl, (blk_cell BK176.out 1).trans rfl, (blk_cell BK176.out 2).trans rfl, (blk_cell BK176.out 3).trans rfl, (blk_cell BK176.out 4).trans rfl⟩ (fun hHeld => ?_); refine with_tabW spec_l24Spans.tab6 spec_l24Spans.bits6 (fun HT_ HW_ => ?_)
    generalize wr.drew = w68 at HO_4 BK176 HB hHeld ⊢
    refine pure_ (i := 1) (N := some 19) (v := ?_) (a' := ?_) #[F,T,F,F,F,F,F,F,F] rfl rfl (any_of HT_.out (by kernel_rfl)) (fun _ _ _ h => h) (Or.inl ⟨by rfl, ?_⟩) ?_ ?_; rotate_left; exact zy; rotate_left; exact zput
    refine pure_ (i := 4) (N := some 22) (v := ?_) (a' := ?_) #[F,T,F,F,T,F,F,F,F] rfl rfl (any_of HT_.out (by kernel_rfl)) (fun _ _ _ h => h) (Or.inl ⟨by rfl, ?_⟩) ?_ ?_; rotate_left; exact zy; rotate_left; exact zput
    refine take_ (i := 0) (N := some 18) (v := ?_) (a' := ?_) #[T,T,F,F,T,F,F,F,F] rfl rfl (take_ofW HT_.out HW_.out (by kernel_rfl)) (fun _ _ _ h => h) (Or.inl ⟨by rfl, ?_⟩) hHeld ?_ ?_; rotate_left; exact zt5; rotate_left; exact zput
    refine take_ (i := 3) (N := some 21) (v := ?_) (a' := ?_) #[T,T,F,T,T,F,F,F,F] rfl rfl (take_ofW HT_.out HW_.out (by kernel_rfl)) (fun _ _ _ h => h) (Or.inl ⟨by rfl, ?_⟩) hHeld ?_ ?_; rotate_left; exact zt5; rotate_left; exact zput
    refine join_ (σ := Nat) 1 #[T,T,T,T,T,T,T,T,F] (fun s_ => [(20, .int .i64 t180), (23, .int .i64 t181), (7, .pointer (some ⟨s_, 0, none⟩)), (24, .agg #[.int .i64 t180, .int .i64 t181])]) (fun s_ w' => (w'.cell? ⟨gb176, 0, none⟩ = some (.int .i64 a0_0) ∧ w'.cell? ⟨gb176, 1, none⟩ = some (.int .i64 a0_1) ∧ w'.cell? ⟨gb176, 2, none⟩ = some (.slice A0_2 l0_2.length c0_2) ∧ w'.cell? ⟨gb176, 3, none⟩ = some (.int .i64 a0_3) ∧ w'.cell? ⟨gb176, 4, none⟩ = some (.int .i64 a0_4)) ∧ (Kd.R k110 110 w' w.heap.size (fun k_ => k_ ≠ s_) u4 x4_1) ∧ (w'.heap[gb176]? = some (.cells #[.int .i64 a0_0, .int .i64 a0_1, .slice A0_2 l0_2.length c0_2, .int .i64 a0_3, .int .i64 a0_4] 68 (0, 0))) ∧ (w'.heap[s_]? = some (.cells #[.int .i64 0, .int .i64 0] 110 (0, 0))) ∧ (w.heap.size ≤ s_) ∧ (w.heap.size ≤ s_) ∧ (gb176 ≠ s_) ∧ (s_ ≠ gb176) ∧ (Below w.heap.size w w')) ?_ ?_
    rotate_left
    ·intro hCont
     refine two_ (i := 2) (j := 7) (Ni := some 20) (Nj := some 7) #[T,T,T,T,T,F,F,F,F] #[T,T,F,T,T,F,F,T,F] rfl rfl rfl rfl (two_of HT_.out (by kernel_rfl)) (by decide) (by decide) (fun K hK => ?_) (fun K hK => ?_)
     ·skip
      refine goes_ Try.func152 (by kernel_rfl) rfl #[.agg #[.int .i64 a0_0, .int .i64 a0_1, .slice A0_2 l0_2.length c0_2, .int .i64 a0_3, .int .i64 a0_4], .int .i64 x6_1] (by rfl) rfl rfl zl ?_
      with_reducible refine (spec_l23Low.calls a0_0 a0_1 _ _ l0_2 a0_3 a0_4 x6_1 t180 _ ?side1 ?side2 A7.out).mono ?_
      (case side1 => exact zC HR0_2 HB)
      (case side2 => exact HC0_2.out)
      rintro e w69 ⟨rfl, hb⟩
      refine ⟨_, rfl, ?_⟩
      have n0_ := zA (Kd.R_below (zr HO_4) hb)
      have n1_ := zb BK176 hb
      have n2_ := zA (below_step (zs1 HB GE176) hb)
      clear HO_4 BK176 HB
      revert n0_ n1_ n2_
      intro HO_4 BK176 HB
      (try clear hb)
      (try clear hb2)
      (try clear hk)
      (try clear hi)
      refine hK.out _ _ ⟨(blk_cell BK176.out 0).trans rfl, (blk_cell BK176.out 1).trans rfl, (blk_cell BK176.out 2).trans rfl, (blk_cell BK176.out 3).trans rfl, (blk_cell BK176.out 4).trans rfl⟩ (fun hHeld => ?_)
      clear hK K
      refine norm_ (a' := ?_) ?_ ?_
      rotate_left
      ·show Act.put _ (some 20) _ = _
       simp only [Act.put, List.setIfInBounds_toArray, List.set_cons_zero, List.set_cons_succ, i64_w, i32_w]
       rfl
      refine two_ (i := 5) (j := 7) (Ni := some 23) (Nj := some 7) #[T,T,T,T,T,T,F,F,F] #[T,T,T,T,T,F,F,T,F] rfl rfl rfl rfl (two_of HT_.out (by kernel_rfl)) (by decide) (by decide) (fun K hK => ?_) (fun K hK => ?_)
      ·skip
       refine goes_ Try.func153 (by kernel_rfl) rfl #[.agg #[.int .i64 a0_0, .int .i64 a0_1, .slice A0_2 l0_2.length c0_2, .int .i64 a0_3, .int .i64 a0_4], .int .i64 x6_1] (by rfl) rfl rfl zl ?_
       with_reducible refine (spec_l23High.calls a0_0 a0_1 _ _ l0_2 a0_3 a0_4 x6_1 t181 _ ?side1 ?side2 A8.out).mono ?_
       (case side1 => exact zC HR0_2 HB)
       (case side2 => exact HC0_2.out)
       rintro e w70 ⟨rfl, hb⟩
       refine ⟨_, rfl, ?_⟩
       have n0_ := zA (Kd.R_below (zr HO_4) hb)
       have n1_ := zb BK176 hb
       have n2_ := zA (below_step (zs1 HB GE176) hb)
       clear HO_4 BK176 HB
       revert n0_ n1_ n2_
       intro HO_4 BK176 HB
       (try clear hb)
       (try clear hb2)
       (try clear hk)
       (try clear hi)
       refine hK.out _ _ ⟨(blk_cell BK176.out 0).trans rfl, (blk_cell BK176.out 1).trans rfl, (blk_cell BK176.out 2).trans rfl, (blk_cell BK176.out 3).trans rfl, (blk_cell BK176.out 4).trans rfl⟩ (fun hHeld => ?_)
       clear hK K
       refine norm_ (a' := ?_) ?_ ?_
       rotate_left
       ·show Act.put _ (some 23) _ = _
        simp only [Act.put, List.setIfInBounds_toArray, List.set_cons_zero, List.set_cons_succ, i64_w, i32_w]
        rfl
       refine pure_ (i := 6) (N := some 24) (v := ?_) (a' := ?_) #[T,T,T,T,T,T,T,F,F] rfl rfl (any_of HT_.out (by kernel_rfl)) (fun _ _ _ h => h) (Or.inl ⟨by rfl, ?_⟩) ?_ ?_; rotate_left; exact zy; rotate_left; exact zput
       refine one_ (i := 7) (N := some 7) #[T,T,T,T,T,T,T,T,F] rfl rfl (one_of HT_.out (by kernel_rfl)) (by decide) (fun K hK => ?_)
       refine box_step (by rfl) (N := 7) (by rfl) (cs := #[.int .i64 0, .int .i64 0]) (t := 110) zg ?_
       intro gb182 hg w71 hbox hb
       have n0_ := zA (Kd.R_below (Kd.R_elderB (zr HO_4) gb182 (Nat.le_of_eq hg.symm)) hb)
       have n1_ := zb BK176 hb
       have n2_ := zA (below_step (zs1 HB GE176) hb)
       have n3_ := zA (hbox)
       have n4_ := zA ((by rw [hg]; exact (below_size (zs1 HB GE176)) : w.heap.size ≤ gb182))
       have n5_ := zA ((by rw [hg]; exact (below_size (zs1 HB GE176)) : w.heap.size ≤ gb182))
       have n6_ := zA ((by rw [hg]; exact Nat.ne_of_lt (blk_lt (g := gb176) (o := .cells #[.int .i64 a0_0, .int .i64 a0_1, .slice A0_2 l0_2.length c0_2, .int .i64 a0_3, .int .i64 a0_4] 68 (0, 0)) (zh BK176)) : gb176 ≠ gb182))
       have n7_ := zA ((by rw [hg]; exact Nat.ne_of_gt (blk_lt (g := gb176) (o := .cells #[.int .i64 a0_0, .int .i64 a0_1, .slice A0_2 l0_2.length c0_2, .int .i64 a0_3, .int .i64 a0_4] 68 (0, 0)) (zh BK176)) : gb182 ≠ gb176))
       clear HO_4
       clear BK176
       clear HB
       have HO_4 := n0_
       have BK176 := n1_
       have HB := n2_
       have BK182 := n3_
       have GW182 := n4_
       have GE182 := n5_
       have NB176_182 := n6_
       have NB182_176 := n7_
       clear n0_ n1_ n2_ n3_ n4_ n5_ n6_ n7_
       clear hb hbox hg
       refine hK.out _ _ ⟨(blk_cell BK176.out 0).trans rfl, (blk_cell BK176.out 1).trans rfl, (blk_cell BK176.out 2).trans rfl, (blk_cell BK176.out 3).trans rfl, (blk_cell BK176.out 4).trans rfl⟩ (fun hHeld => ?_)
       clear hK K
       refine norm_ (a' := ?_) ?_ ?_
       rotate_left
       ·show Act.put _ (some 7) _ = _
        simp only [Act.put, List.setIfInBounds_toArray, List.set_cons_zero, List.set_cons_succ, i64_w, i32_w]
        rfl
       exact norm_ (by simp only [putAll, Act.put, List.setIfInBounds_toArray, List.set_cons_zero, List.set_cons_succ]) (hCont (gb182) _ ⟨hHeld, (by (with_reducible repeat (first | apply Kd.R_alloc | apply Kd.R_drewN | apply Kd.R_drew)); exact Kd.R_mono HO_4.out (fun _ hk => hk.2)), (zh BK176), (zh BK182), GW182.out, GE182.out, NB176_182.out, NB182_176.out, (zs2 HB GE176 GE182)⟩)
      ·skip
       refine box_step (by rfl) (N := 7) (by rfl) (cs := #[.int .i64 0, .int .i64 0]) (t := 110) zg ?_
       intro gb182 hg w70 hbox hb
       have n0_ := zA (Kd.R_below (Kd.R_elderB (zr HO_4) gb182 (Nat.le_of_eq hg.symm)) hb)
       have n1_ := zb BK176 hb
       have n2_ := zA (below_step (zs1 HB GE176) hb)
       have n3_ := zA (hbox)
       have n4_ := zA ((by rw [hg]; exact (below_size (zs1 HB GE176)) : w.heap.size ≤ gb182))
       have n5_ := zA ((by rw [hg]; exact (below_size (zs1 HB GE176)) : w.heap.size ≤ gb182))
       have n6_ := zA ((by rw [hg]; exact Nat.ne_of_lt (blk_lt (g := gb176) (o := .cells #[.int .i64 a0_0, .int .i64 a0_1, .slice A0_2 l0_2.length c0_2, .int .i64 a0_3, .int .i64 a0_4] 68 (0, 0)) (zh BK176)) : gb176 ≠ gb182))
       have n7_ := zA ((by rw [hg]; exact Nat.ne_of_gt (blk_lt (g := gb176) (o := .cells #[.int .i64 a0_0, .int .i64 a0_1, .slice A0_2 l0_2.length c0_2, .int .i64 a0_3, .int .i64 a0_4] 68 (0, 0)) (zh BK176)) : gb182 ≠ gb176))
       clear HO_4
       clear BK176
       clear HB
       have HO_4 := n0_
       have BK176 := n1_
       have HB := n2_
       have BK182 := n3_
       have GW182 := n4_
       have GE182 := n5_
       have NB176_182 := n6_
       have NB182_176 := n7_
       clear n0_ n1_ n2_ n3_ n4_ n5_ n6_ n7_
       clear hb hbox hg
       refine hK.out _ _ ⟨(blk_cell BK176.out 0).trans rfl, (blk_cell BK176.out 1).trans rfl, (blk_cell BK176.out 2).trans rfl, (blk_cell BK176.out 3).trans rfl, (blk_cell BK176.out 4).trans rfl⟩ (fun hHeld => ?_)
       clear hK K
       refine norm_ (a' := ?_) ?_ ?_
       rotate_left
       ·show Act.put _ (some 7) _ = _
        simp only [Act.put, List.setIfInBounds_toArray, List.set_cons_zero, List.set_cons_succ, i64_w, i32_w]
        rfl
       refine one_ (i := 5) (N := some 23) #[T,T,T,T,T,T,F,T,F] rfl rfl (one_of HT_.out (by kernel_rfl)) (by decide) (fun K hK => ?_)
       refine goes_ Try.func153 (by kernel_rfl) rfl #[.agg #[.int .i64 a0_0, .int .i64 a0_1, .slice A0_2 l0_2.length c0_2, .int .i64 a0_3, .int .i64 a0_4], .int .i64 x6_1] (by rfl) rfl rfl zl ?_
       with_reducible refine (spec_l23High.calls a0_0 a0_1 _ _ l0_2 a0_3 a0_4 x6_1 t181 _ ?side1 ?side2 A8.out).mono ?_
       (case side1 => exact zC HR0_2 HB)
       (case side2 => exact HC0_2.out)
       rintro e w71 ⟨rfl, hb⟩
       refine ⟨_, rfl, ?_⟩
       have n0_ := zA (Kd.R_below (zr HO_4) hb)
       have n1_ := zb BK176 hb
       have n2_ := zb BK182 hb
       have n3_ := zA (below_step (zs2 HB GE176 GE182) hb)
       clear HO_4 BK176 BK182 HB
       revert n0_ n1_ n2_ n3_
       intro HO_4 BK176 BK182 HB
       (try clear hb)
       (try clear hb2)
       (try clear hk)
       (try clear hi)
       refine hK.out _ _ ⟨(blk_cell BK176.out 0).trans rfl, (blk_cell BK176.out 1).trans rfl, (blk_cell BK176.out 2).trans rfl, (blk_cell BK176.out 3).trans rfl, (blk_cell BK176.out 4).trans rfl⟩ (fun hHeld => ?_)
       clear hK K
       refine norm_ (a' := ?_) ?_ ?_
       rotate_left
       ·show Act.put _ (some 23) _ = _
        simp only [Act.put, List.setIfInBounds_toArray, List.set_cons_zero, List.set_cons_succ, i64_w, i32_w]
        rfl
       refine pure_ (i := 6) (N := some 24) (v := ?_) (a' := ?_) #[T,T,T,T,T,T,T,T,F] rfl rfl (any_of HT_.out (by kernel_rfl)) (fun _ _ _ h => h) (Or.inl ⟨by rfl, ?_⟩) ?_ ?_; rotate_left; exact zy; rotate_left; exact zput
       exact norm_ (by simp only [putAll, Act.put, List.setIfInBounds_toArray, List.set_cons_zero, List.set_cons_succ]) (hCont (gb182) _ ⟨hHeld, (by (with_reducible repeat (first | apply Kd.R_alloc | apply Kd.R_drewN | apply Kd.R_drew)); exact Kd.R_mono HO_4.out (fun _ hk => hk.2)), (zh BK176), (zh BK182), GW182.out, GE182.out, NB176_182.out, NB182_176.out, (zs2 HB GE176 GE182)⟩)
     ·skip
      refine box_step (by rfl) (N := 7) (by rfl) (cs := #[.int .i64 0, .int .i64 0]) (t := 110) zg ?_
      intro gb182 hg w69 hbox hb
      have n0_ := zA (Kd.R_below (Kd.R_elderB (zr HO_4) gb182 (Nat.le_of_eq hg.symm)) hb)
      have n1_ := zb BK176 hb
      have n2_ := zA (below_step (zs1 HB GE176) hb)
      have n3_ := zA (hbox)
      have n4_ := zA ((by rw [hg]; exact (below_size (zs1 HB GE176)) : w.heap.size ≤ gb182))
      have n5_ := zA ((by rw [hg]; exact (below_size (zs1 HB GE176)) : w.heap.size ≤ gb182))
      have n6_ := zA ((by rw [hg]; exact Nat.ne_of_lt (blk_lt (g := gb176) (o := .cells #[.int .i64 a0_0, .int .i64 a0_1, .slice A0_2 l0_2.length c0_2, .int .i64 a0_3, .int .i64 a0_4] 68 (0, 0)) (zh BK176)) : gb176 ≠ gb182))
      have n7_ := zA ((by rw [hg]; exact Nat.ne_of_gt (blk_lt (g := gb176) (o := .cells #[.int .i64 a0_0, .int .i64 a0_1, .slice A0_2 l0_2.length c0_2, .int .i64 a0_3, .int .i64 a0_4] 68 (0, 0)) (zh BK176)) : gb182 ≠ gb176))
      clear HO_4
      clear BK176
      clear HB
      have HO_4 := n0_
      have BK176 := n1_
      have HB := n2_
      have BK182 := n3_
      have GW182 := n4_
      have GE182 := n5_
      have NB176_182 := n6_
      have NB182_176 := n7_
      clear n0_ n1_ n2_ n3_ n4_ n5_ n6_ n7_
      clear hb hbox hg
      refine hK.out _ _ ⟨(blk_cell BK176.out 0).trans rfl, (blk_cell BK176.out 1).trans rfl, (blk_cell BK176.out 2).trans rfl, (blk_cell BK176.out 3).trans rfl, (blk_cell BK176.out 4).trans rfl⟩ (fun hHeld => ?_)
      clear hK K
      refine norm_ (a' := ?_) ?_ ?_
      rotate_left
      ·show Act.put _ (some 7) _ = _
       simp only [Act.put, List.setIfInBounds_toArray, List.set_cons_zero, List.set_cons_succ, i64_w, i32_w]
       rfl
      refine one_ (i := 2) (N := some 20) #[T,T,T,T,T,F,F,T,F] rfl rfl (one_of HT_.out (by kernel_rfl)) (by decide) (fun K hK => ?_)
      refine goes_ Try.func152 (by kernel_rfl) rfl #[.agg #[.int .i64 a0_0, .int .i64 a0_1, .slice A0_2 l0_2.length c0_2, .int .i64 a0_3, .int .i64 a0_4], .int .i64 x6_1] (by rfl) rfl rfl zl ?_
      with_reducible refine (spec_l23Low.calls a0_0 a0_1 _ _ l0_2 a0_3 a0_4 x6_1 t180 _ ?side1 ?side2 A7.out).mono ?_
      (case side1 => exact zC HR0_2 HB)
      (case side2 => exact HC0_2.out)
      rintro e w70 ⟨rfl, hb⟩
      refine ⟨_, rfl, ?_⟩
      have n0_ := zA (Kd.R_below (zr HO_4) hb)
      have n1_ := zb BK176 hb
      have n2_ := zb BK182 hb
      have n3_ := zA (below_step (zs2 HB GE176 GE182) hb)
      clear HO_4 BK176 BK182 HB
      revert n0_ n1_ n2_ n3_
      intro HO_4 BK176 BK182 HB
      (try clear hb)
      (try clear hb2)
      (try clear hk)
      (try clear hi)
      refine hK.out _ _ ⟨(blk_cell BK176.out 0).trans rfl, (blk_cell BK176.out 1).trans rfl, (blk_cell BK176.out 2).trans rfl, (blk_cell BK176.out 3).trans rfl, (blk_cell BK176.out 4).trans rfl⟩ (fun hHeld => ?_)
      clear hK K
      refine norm_ (a' := ?_) ?_ ?_
      rotate_left
      ·show Act.put _ (some 20) _ = _
       simp only [Act.put, List.setIfInBounds_toArray, List.set_cons_zero, List.set_cons_succ, i64_w, i32_w]
       rfl
      refine one_ (i := 5) (N := some 23) #[T,T,T,T,T,T,F,T,F] rfl rfl (one_of HT_.out (by kernel_rfl)) (by decide) (fun K hK => ?_)
      refine goes_ Try.func153 (by kernel_rfl) rfl #[.agg #[.int .i64 a0_0, .int .i64 a0_1, .slice A0_2 l0_2.length c0_2, .int .i64 a0_3, .int .i64 a0_4], .int .i64 x6_1] (by rfl) rfl rfl zl ?_
      with_reducible refine (spec_l23High.calls a0_0 a0_1 _ _ l0_2 a0_3 a0_4 x6_1 t181 _ ?side1 ?side2 A8.out).mono ?_
      (case side1 => exact zC HR0_2 HB)
      (case side2 => exact HC0_2.out)
      rintro e w71 ⟨rfl, hb⟩
      refine ⟨_, rfl, ?_⟩
      have n0_ := zA (Kd.R_below (zr HO_4) hb)
      have n1_ := zb BK176 hb
      have n2_ := zb BK182 hb
      have n3_ := zA (below_step (zs2 HB GE176 GE182) hb)
      clear HO_4 BK176 BK182 HB
      revert n0_ n1_ n2_ n3_
      intro HO_4 BK176 BK182 HB
      (try clear hb)
      (try clear hb2)
      (try clear hk)
      (try clear hi)
      refine hK.out _ _ ⟨(blk_cell BK176.out 0).trans rfl, (blk_cell BK176.out 1).trans rfl, (blk_cell BK176.out 2).trans rfl, (blk_cell BK176.out 3).trans rfl, (blk_cell BK176.out 4).trans rfl⟩ (fun hHeld => ?_)
      clear hK K
      refine norm_ (a' := ?_) ?_ ?_
      rotate_left
      ·show Act.put _ (some 23) _ = _
       simp only [Act.put, List.setIfInBounds_toArray, List.set_cons_zero, List.set_cons_succ, i64_w, i32_w]
       rfl
      refine pure_ (i := 6) (N := some 24) (v := ?_) (a' := ?_) #[T,T,T,T,T,T,T,T,F] rfl rfl (any_of HT_.out (by kernel_rfl)) (fun _ _ _ h => h) (Or.inl ⟨by rfl, ?_⟩) ?_ ?_; rotate_left; exact zy; rotate_left; exact zput
      exact norm_ (by simp only [putAll, Act.put, List.setIfInBounds_toArray, List.set_cons_zero, List.set_cons_succ]) (hCont (gb182) _ ⟨hHeld, (by (with_reducible repeat (first | apply Kd.R_alloc | apply Kd.R_drewN | apply Kd.R_drew)); exact Kd.R_mono HO_4.out (fun _ hk => hk.2)), (zh BK176), (zh BK182), GW182.out, GE182.out, NB176_182.out, NB182_176.out, (zs2 HB GE176 GE182)⟩)
    rintro gb182 w72 ⟨hS_, h0_, h1_, h2_, h3_, h4_, h5_, h6_, h7_⟩
    have n0_ : Aside0 (Kd.R k110 110 w72 w.heap.size (fun k_ => k_ ≠ gb182) u4 x4_1) := ⟨h0_⟩
    have n1_ : Aside0 (w72.heap[gb176]? = some (.cells #[.int .i64 a0_0, .int .i64 a0_1, .slice A0_2 l0_2.length c0_2, .int .i64 a0_3, .int .i64 a0_4] 68 (0, 0))) := ⟨h1_⟩
    have n2_ : Aside0 (w72.heap[gb182]? = some (.cells #[.int .i64 0, .int .i64 0] 110 (0, 0))) := ⟨h2_⟩
    have n3_ : Aside0 (w.heap.size ≤ gb182) := ⟨h3_⟩
    have n4_ : Aside0 (w.heap.size ≤ gb182) := ⟨h4_⟩
    have n5_ : Aside0 (gb176 ≠ gb182) := ⟨h5_⟩
    have n6_ : Aside0 (gb182 ≠ gb176) := ⟨h6_⟩
    have n7_ : Aside0 (Below w.heap.size w w72) := ⟨h7_⟩
    clear HO_4
    clear BK176
    clear HB
    clear h0_ h1_ h2_ h3_ h4_ h5_ h6_ h7_
    have HO_4 := n0_
    have BK176 := n1_
    have BK182 := n2_
    have GW182 := n3_
    have GE182 := n4_
    have NB176_182 := n5_
    have NB182_176 := n6_
    have HB := n7_
    clear n0_ n1_ n2_ n3_ n4_ n5_ n6_ n7_
    have hHeld : w72.cell? ⟨gb176, 0, none⟩ = some (.int .i64 a0_0) ∧ w72.cell? ⟨gb176, 1, none⟩ = some (.int .i64 a0_1) ∧ w72.cell? ⟨gb176, 2, none⟩ = some (.slice A0_2 l0_2.length c0_2) ∧ w72.cell? ⟨gb176, 3, none⟩ = some (.int .i64 a0_3) ∧ w72.cell? ⟨gb176, 4, none⟩ = some (.int .i64 a0_4) := hS_
    refine norm_ (a' := ?_) ?_ ?_
    rotate_left
    ·simp only [putAll, Act.put, List.setIfInBounds_toArray, List.set_cons_zero, List.set_cons_succ]
     rfl
    refine one_ (i := 8) (N := none) #[T,T,T,T,T,T,T,T,T] rfl rfl (one_of HT_.out (by kernel_rfl)) (by decide) (fun K hK => ?_)
    have hs73 : w72.cell? ⟨gb182, 0, none⟩ = some (.int .i64 0) := (blk_cell BK182.out 0).trans rfl
    have hfs73 := zf BK182 0
    have hns73_0 := NB176_182.out
    have hms73_0 := NB182_176.out
    have hs74 : w72.cell? ⟨gb182, 1, none⟩ = some (.int .i64 0) := (blk_cell BK182.out 1).trans rfl
    have hfs74 := zf BK182 1
    have hns74_0 := NB176_182.out
    have hms74_0 := NB182_176.out
    refine skip_ (w1 := ?_) (by rfl) rfl ?_ ?_
    rotate_left
    ·go_simp
     rfl
    refine hK.out _ _ ⟨((cell_far (p := ⟨gb182, _, none⟩) NB176_182.out _).trans (((cell_far (p := ⟨gb182, _, none⟩) NB176_182.out _).trans (hHeld.1)))), ((cell_far (p := ⟨gb182, _, none⟩) NB176_182.out _).trans (((cell_far (p := ⟨gb182, _, none⟩) NB176_182.out _).trans (hHeld.2.1)))), ((cell_far (p := ⟨gb182, _, none⟩) NB176_182.out _).trans (((cell_far (p := ⟨gb182, _, none⟩) NB176_182.out _).trans (hHeld.2.2.1)))), ((cell_far (p := ⟨gb182, _, none⟩) NB176_182.out _).trans (((cell_far (p := ⟨gb182, _, none⟩) NB176_182.out _).trans (hHeld.2.2.2.1)))), ((cell_far (p := ⟨gb182, _, none⟩) NB176_182.out _).trans (((cell_far (p := ⟨gb182, _, none⟩) NB176_182.out _).trans (hHeld.2.2.2.2))))⟩ (fun hHeld => ?_)
    clear hK K
    refine done_ (done_of HT_.out (by kernel_rfl)) ?_
    have hnb75 := NB182_176.out
    have hnc75 := NB176_182.out
    obtain ⟨hcz76_0, hcz76_1⟩ := zd2 BK182
    obtain ⟨hfz76_0, hfz76_1⟩ := zn2 BK182
    try go_wp2_with (first | ((with_reducible refine gate_builtin (b := .append) (xs := #[.tmp 62, .tmp 64]) rfl ?_); at_builtin; refine Kd.R_append k110 (w0 := w) w.heap.size rfl (.tmp 62) (.tmp 64) 105 110 (.agg #[(.int .i64 0), (.int .i64 0)]) 16 rfl Try.underlying105 info110 rfl (by decide) (by omega) u4 x4_1 (⟨t180, t181⟩ : S110) [.int .i64 t180, .int .i64 t181] (fun k_ => k_ ≠ gb182) (fun _ => False) rfl (by first | (go_simp; done) | (go_simp; rfl)) ?aP (fun _ hk => hk.elim) ?aF ?aO ?aB ?aS ?aL ?_; (case aP => exact k110_mkM _ _ _ (⟨t180, t181⟩ : S110)); (case aB => exact (zs2 HB GE176 GE182)); (case aF => exact (fun k_ hk => Kd.freshB (g := gb182) (o := .cells #[.int .i64 t180, .int .i64 t181] 110 (0, 0)) (by (with_reducible repeat (first | refine blk_drewN ?_ _ | refine blk_drew ?_ | refine blk_alloc ?_ _)); refine blk_put (cs := #[.int .i64 t180, .int .i64 0]) ?_ 1 _ rfl; (with_reducible repeat (first | refine blk_drewN ?_ _ | refine blk_drew ?_ | refine blk_alloc ?_ _)); refine blk_put (cs := #[.int .i64 0, .int .i64 0]) ?_ 0 _ rfl; (with_reducible repeat (first | refine blk_drewN ?_ _ | refine blk_drew ?_ | refine blk_alloc ?_ _)); exact BK182.out) k_ hk)); (case aO => exact (by (with_reducible repeat (first | apply Kd.R_alloc | apply Kd.R_drewN | apply Kd.R_drew)); exact Kd.R_mono (Kd.R_far (p := ⟨gb182, 1, none⟩) (Kd.R_far (p := ⟨gb182, 0, none⟩) (Kd.R_mono HO_4.out (fun k_ hk => (⟨hk, hk⟩ : _ ∧ k_ ≠ gb182))) (fun _ hk => hk.2) (.int .i64 t180)) (fun _ hk => hk.2) (.int .i64 t181)) (fun _ hk => hk.1))); (case aS => exact (below_size (zs2 HB GE176 GE182))); (case aL => have := LMc67.out; omega); intro v198 w77 ho hb hg hat; rw [← Ny197.out] at ho; have n0_ := zA (blk_grown (g := gb176) (o := .cells #[.int .i64 a0_0, .int .i64 a0_1, .slice A0_2 l0_2.length c0_2, .int .i64 a0_3, .int .i64 a0_4] 68 (0, 0)) (by (with_reducible repeat (first | refine blk_drewN ?_ _ | refine blk_drew ?_ | refine blk_alloc ?_ _)); refine blk_far ?_ NB176_182.out _; (with_reducible repeat (first | refine blk_drewN ?_ _ | refine blk_drew ?_ | refine blk_alloc ?_ _)); refine blk_far ?_ NB176_182.out _; (with_reducible repeat (first | refine blk_drewN ?_ _ | refine blk_drew ?_ | refine blk_alloc ?_ _)); exact BK176.out) hg (Kd.R_ne HO_4.out BK176.out (by decide))); have n1_ := zA (blk_grown (g := gb182) (o := .cells #[.int .i64 t180, .int .i64 t181] 110 (0, 0)) (by (with_reducible repeat (first | refine blk_drewN ?_ _ | refine blk_drew ?_ | refine blk_alloc ?_ _)); refine blk_put (cs := #[.int .i64 t180, .int .i64 0]) ?_ 1 _ rfl; (with_reducible repeat (first | refine blk_drewN ?_ _ | refine blk_drew ?_ | refine blk_alloc ?_ _)); refine blk_put (cs := #[.int .i64 0, .int .i64 0]) ?_ 0 _ rfl; (with_reducible repeat (first | refine blk_drewN ?_ _ | refine blk_drew ?_ | refine blk_alloc ?_ _)); exact BK182.out) hg (Kd.R_away HO_4.out (fun _ hk => hk))); have n2_ := zA (hb); have n3_ := zA (ho); clear BK176; clear BK182; clear HB; clear HO_4; have BK176 := n0_; have BK182 := n1_; have HB := n2_; have HO199 := n3_; clear n0_ n1_ n2_ n3_; clear ho hb hg hat))
    go_roundg k1
    case measure => have := HK1.out; omega
    case rel => exact ⟨(y197), (wrap64 (x6_1 + 1)), zi, H', ⟨by have := HK1.out; omega⟩, ⟨by (with_reducible repeat (first | apply Kd.R_alloc | apply Kd.R_drewN | apply Kd.R_drew)); exact Kd.R_mono HO199.out (fun _ hk => trivial)⟩, ⟨zh BK176⟩, ⟨zs2 HB GE176 GE182⟩⟩
   rw [if_pos c9] at H
   have c9b0 : decide (0 < x6_1) = true := decide_eq_true c9
   clear c9
   obtain ⟨ji10, hji10⟩ : ∃ j_ : Int, (wrap64 (x6_1 - 1)) = j_ := ⟨_, rfl⟩
   replace H : (if 0 ≤ (ji10) then (if (ji10) < (x4_1.length : Int) then ((spec_l21Max.f t180 (wrap64 (((rd_T110 x4_1 (ji10)).f0) + a0_0))).bind fun t184 => ((spec_l23Most.f a0_0 a0_1 l0_2 a0_3 a0_4 (ji10)).bind fun t186 => ((spec_l21Min.f t181 (wrap64 (((rd_T110 x4_1 (ji10)).f1) + t186))).bind fun t187 => (if t184 > t187 then (some ((([] : List (S110))), false)) else (if x4_1.length < 8796093022208 then (spec_l24Spans.l0 k1 (x4_1 ++ [(⟨t184, t187⟩ : S110)]) (l0_2.length : Int) (wrap64 (x6_1 + 1)) a0_0 a0_1 l0_2 a0_3 a0_4) else (none)))))) else (none)) else (none)) = some (r1, r2) := by first | (rw [hji10] at H; exact H) | (simp only [hji10] at H ⊢; exact H)
   (try rw [hji10] at A7)
   (try rw [hji10] at A8)
   have hji10w : (IntKind.i64.wrap (x6_1 - 1)) = ji10 := (i64_w _).trans hji10
   by_cases c11 : 0 ≤ (ji10)
   rotate_left
   ·rw [if_neg c11] at H
    exact absurd H (by simp)
   rw [if_pos c11] at H
   have c11b0 : decide (0 ≤ (ji10)) = true := decide_eq_true c11
   clear c11
   by_cases c12 : (ji10) < (x4_1.length : Int)
   rotate_left
   ·rw [if_neg c12] at H
    exact absurd H (by simp)
   rw [if_pos c12] at H
   have c12b0 : decide ((ji10) < (x4_1.length : Int)) = true := decide_eq_true c12
   clear c12
   replace H := Option.bind_eq_some_iff.mp H
   obtain ⟨t184, A130, H⟩ := H
   replace H : ((spec_l23Most.f a0_0 a0_1 l0_2 a0_3 a0_4 (ji10)).bind fun t186 => ((spec_l21Min.f t181 (wrap64 (((rd_T110 x4_1 (ji10)).f1) + t186))).bind fun t187 => (if t184 > t187 then (some ((([] : List (S110))), false)) else (if x4_1.length < 8796093022208 then (spec_l24Spans.l0 k1 (x4_1 ++ [(⟨t184, t187⟩ : S110)]) (l0_2.length : Int) (wrap64 (x6_1 + 1)) a0_0 a0_1 l0_2 a0_3 a0_4) else (none))))) = some (r1, r2) := H
   have A13 := zA A130
   clear A130
   replace H := Option.bind_eq_some_iff.mp H
   obtain ⟨t186, A140, H⟩ := H
   replace H : ((spec_l21Min.f t181 (wrap64 (((rd_T110 x4_1 (ji10)).f1) + t186))).bind fun t187 => (if t184 > t187 then (some ((([] : List (S110))), false)) else (if x4_1.length < 8796093022208 then (spec_l24Spans.l0 k1 (x4_1 ++ [(⟨t184, t187⟩ : S110)]) (l0_2.length : Int) (wrap64 (x6_1 + 1)) a0_0 a0_1 l0_2 a0_3 a0_4) else (none)))) = some (r1, r2) := H
   have A14 := zA A140
   clear A140
   replace H := Option.bind_eq_some_iff.mp H
   obtain ⟨t187, A150, H⟩ := H
   replace H : (if t184 > t187 then (some ((([] : List (S110))), false)) else (if x4_1.length < 8796093022208 then (spec_l24Spans.l0 k1 (x4_1 ++ [(⟨t184, t187⟩ : S110)]) (l0_2.length : Int) (wrap64 (x6_1 + 1)) a0_0 a0_1 l0_2 a0_3 a0_4) else (none))) = some (r1, r2) := H
   have A15 := zA A150
   clear A150
   by_cases c16 : t184 > t187
   ·rw [if_pos c16] at H
    have c16b0 : decide (t187 < t184) = true := decide_eq_true c16
    clear c16
    obtain ⟨y188, hy188⟩ : ∃ y_ : List (S110), y_ = (([] : List (S110))) := ⟨_, rfl⟩
    replace H : (some (y188, false)) = some (r1, r2) := by first | (rw [hy188]; with_reducible exact H) | (have H2_ := (Option.bind_some _ _).symm.trans H; rw [hy188]; with_reducible exact H2_) | (have H2_ := (Option.bind_some _ _).symm.trans H; with_reducible exact H2_) | with_reducible exact H | (rw [hy188]; exact H) | exact H
    have Ny188 := zA hy188
    clear hy188
    simp only [Option.some.injEq, Prod.mk.injEq] at H
    obtain ⟨rfl, rfl⟩ := H
    try go_wp2
    have n0_ := zA (Kd.R_drew HO_4.out)
    have n1_ := zA (blk_drew BK176.out)
    have n2_ := zA (below_drew1 HB.out)
    clear HO_4 BK176 HB
    revert n0_ n1_ n2_
    intro HO_4 BK176 HB
    refine start_ (n := 9) (S := fun w' => w'.cell? ⟨gb176, 0, none⟩ = some (.int .i64 a0_0) ∧ w'.cell? ⟨gb176, 1, none⟩ = some (.int .i64 a0_1) ∧ w'.cell? ⟨gb176, 2, none⟩ = some (.slice A0_2 l0_2.length c0_2) ∧ w'.cell? ⟨gb176, 3, none⟩ = some (.int .i64 a0_3) ∧ w'.cell? ⟨gb176, 4, none⟩ = some (.int .i64 a0_4)) (ds := []) #[F,F,F,F,F,F,F,F,F] (by kernel_rfl) rfl rfl ⟨(blk_cell BK176.out 0).trans rfl, (blk_cell BK176.out 1).trans rfl, (blk_cell BK176.out 2).trans rfl, (blk_cell BK176.out 3).trans rfl, (blk_cell BK176.out 4).trans rfl⟩ (fun hHeld => ?_); refine with_tabW spec_l24Spans.tab6 spec_l24Spans.bits6 (fun HT_ HW_ => ?_)
    generalize wr.drew = w17 at HO_4 BK176 HB hHeld ⊢
    refine pure_ (i := 1) (N := some 19) (v := ?_) (a' := ?_) #[F,T,F,F,F,F,F,F,F] rfl rfl (any_of HT_.out (by kernel_rfl)) (fun _ _ _ h => h) (Or.inl ⟨by rfl, ?_⟩) ?_ ?_; rotate_left; exact zy; rotate_left; exact zput
    refine pure_ (i := 4) (N := some 22) (v := ?_) (a' := ?_) #[F,T,F,F,T,F,F,F,F] rfl rfl (any_of HT_.out (by kernel_rfl)) (fun _ _ _ h => h) (Or.inl ⟨by rfl, ?_⟩) ?_ ?_; rotate_left; exact zy; rotate_left; exact zput
    refine take_ (i := 0) (N := some 18) (v := ?_) (a' := ?_) #[T,T,F,F,T,F,F,F,F] rfl rfl (take_ofW HT_.out HW_.out (by kernel_rfl)) (fun _ _ _ h => h) (Or.inl ⟨by rfl, ?_⟩) hHeld ?_ ?_; rotate_left; exact zt5; rotate_left; exact zput
    refine take_ (i := 3) (N := some 21) (v := ?_) (a' := ?_) #[T,T,F,T,T,F,F,F,F] rfl rfl (take_ofW HT_.out HW_.out (by kernel_rfl)) (fun _ _ _ h => h) (Or.inl ⟨by rfl, ?_⟩) hHeld ?_ ?_; rotate_left; exact zt5; rotate_left; exact zput
    refine join_ (σ := Nat) 1 #[T,T,T,T,T,T,T,T,F] (fun s_ => [(20, .int .i64 t180), (23, .int .i64 t181), (7, .pointer (some ⟨s_, 0, none⟩)), (24, .agg #[.int .i64 t180, .int .i64 t181])]) (fun s_ w' => (w'.cell? ⟨gb176, 0, none⟩ = some (.int .i64 a0_0) ∧ w'.cell? ⟨gb176, 1, none⟩ = some (.int .i64 a0_1) ∧ w'.cell? ⟨gb176, 2, none⟩ = some (.slice A0_2 l0_2.length c0_2) ∧ w'.cell? ⟨gb176, 3, none⟩ = some (.int .i64 a0_3) ∧ w'.cell? ⟨gb176, 4, none⟩ = some (.int .i64 a0_4)) ∧ (Kd.R k110 110 w' w.heap.size (fun k_ => k_ ≠ s_) u4 x4_1) ∧ (w'.heap[gb176]? = some (.cells #[.int .i64 a0_0, .int .i64 a0_1, .slice A0_2 l0_2.length c0_2, .int .i64 a0_3, .int .i64 a0_4] 68 (0, 0))) ∧ (w'.heap[s_]? = some (.cells #[.int .i64 0, .int .i64 0] 110 (0, 0))) ∧ (w.heap.size ≤ s_) ∧ (w.heap.size ≤ s_) ∧ (gb176 ≠ s_) ∧ (s_ ≠ gb176) ∧ (Below w.heap.size w w')) ?_ ?_
    rotate_left
    ·intro hCont
     refine two_ (i := 2) (j := 7) (Ni := some 20) (Nj := some 7) #[T,T,T,T,T,F,F,F,F] #[T,T,F,T,T,F,F,T,F] rfl rfl rfl rfl (two_of HT_.out (by kernel_rfl)) (by decide) (by decide) (fun K hK => ?_) (fun K hK => ?_)
     ·skip
      refine goes_ Try.func152 (by kernel_rfl) rfl #[.agg #[.int .i64 a0_0, .int .i64 a0_1, .slice A0_2 l0_2.length c0_2, .int .i64 a0_3, .int .i64 a0_4], .int .i64 x6_1] (by rfl) rfl rfl zl ?_
      with_reducible refine (spec_l23Low.calls a0_0 a0_1 _ _ l0_2 a0_3 a0_4 x6_1 t180 _ ?side1 ?side2 A7.out).mono ?_
      (case side1 => exact zC HR0_2 HB)
      (case side2 => exact HC0_2.out)
      rintro e w18 ⟨rfl, hb⟩
      refine ⟨_, rfl, ?_⟩
      have n0_ := zA (Kd.R_below (zr HO_4) hb)
      have n1_ := zb BK176 hb
      have n2_ := zA (below_step (zs1 HB GE176) hb)
      clear HO_4 BK176 HB
      revert n0_ n1_ n2_
      intro HO_4 BK176 HB
      (try clear hb)
      (try clear hb2)
      (try clear hk)
      (try clear hi)
      refine hK.out _ _ ⟨(blk_cell BK176.out 0).trans rfl, (blk_cell BK176.out 1).trans rfl, (blk_cell BK176.out 2).trans rfl, (blk_cell BK176.out 3).trans rfl, (blk_cell BK176.out 4).trans rfl⟩ (fun hHeld => ?_)
      clear hK K
      refine norm_ (a' := ?_) ?_ ?_
      rotate_left
      ·show Act.put _ (some 20) _ = _
       simp only [Act.put, List.setIfInBounds_toArray, List.set_cons_zero, List.set_cons_succ, i64_w, i32_w]
       rfl
      refine two_ (i := 5) (j := 7) (Ni := some 23) (Nj := some 7) #[T,T,T,T,T,T,F,F,F] #[T,T,T,T,T,F,F,T,F] rfl rfl rfl rfl (two_of HT_.out (by kernel_rfl)) (by decide) (by decide) (fun K hK => ?_) (fun K hK => ?_)
      ·skip
       refine goes_ Try.func153 (by kernel_rfl) rfl #[.agg #[.int .i64 a0_0, .int .i64 a0_1, .slice A0_2 l0_2.length c0_2, .int .i64 a0_3, .int .i64 a0_4], .int .i64 x6_1] (by rfl) rfl rfl zl ?_
       with_reducible refine (spec_l23High.calls a0_0 a0_1 _ _ l0_2 a0_3 a0_4 x6_1 t181 _ ?side1 ?side2 A8.out).mono ?_
       (case side1 => exact zC HR0_2 HB)
       (case side2 => exact HC0_2.out)
       rintro e w19 ⟨rfl, hb⟩
       refine ⟨_, rfl, ?_⟩
       have n0_ := zA (Kd.R_below (zr HO_4) hb)
       have n1_ := zb BK176 hb
       have n2_ := zA (below_step (zs1 HB GE176) hb)
       clear HO_4 BK176 HB
       revert n0_ n1_ n2_
       intro HO_4 BK176 HB
       (try clear hb)
       (try clear hb2)
       (try clear hk)
       (try clear hi)
       refine hK.out _ _ ⟨(blk_cell BK176.out 0).trans rfl, (blk_cell BK176.out 1).trans rfl, (blk_cell BK176.out 2).trans rfl, (blk_cell BK176.out 3).trans rfl, (blk_cell BK176.out 4).trans rfl⟩ (fun hHeld => ?_)
       clear hK K
       refine norm_ (a' := ?_) ?_ ?_
       rotate_left
       ·show Act.put _ (some 23) _ = _
        simp only [Act.put, List.setIfInBounds_toArray, List.set_cons_zero, List.set_cons_succ, i64_w, i32_w]
        rfl
       refine pure_ (i := 6) (N := some 24) (v := ?_) (a' := ?_) #[T,T,T,T,T,T,T,F,F] rfl rfl (any_of HT_.out (by kernel_rfl)) (fun _ _ _ h => h) (Or.inl ⟨by rfl, ?_⟩) ?_ ?_; rotate_left; exact zy; rotate_left; exact zput
       refine one_ (i := 7) (N := some 7) #[T,T,T,T,T,T,T,T,F] rfl rfl (one_of HT_.out (by kernel_rfl)) (by decide) (fun K hK => ?_)
       refine box_step (by rfl) (N := 7) (by rfl) (cs := #[.int .i64 0, .int .i64 0]) (t := 110) zg ?_
       intro gb182 hg w20 hbox hb
       have n0_ := zA (Kd.R_below (Kd.R_elderB (zr HO_4) gb182 (Nat.le_of_eq hg.symm)) hb)
       have n1_ := zb BK176 hb
       have n2_ := zA (below_step (zs1 HB GE176) hb)
       have n3_ := zA (hbox)
       have n4_ := zA ((by rw [hg]; exact (below_size (zs1 HB GE176)) : w.heap.size ≤ gb182))
       have n5_ := zA ((by rw [hg]; exact (below_size (zs1 HB GE176)) : w.heap.size ≤ gb182))
       have n6_ := zA ((by rw [hg]; exact Nat.ne_of_lt (blk_lt (g := gb176) (o := .cells #[.int .i64 a0_0, .int .i64 a0_1, .slice A0_2 l0_2.length c0_2, .int .i64 a0_3, .int .i64 a0_4] 68 (0, 0)) (zh BK176)) : gb176 ≠ gb182))
       have n7_ := zA ((by rw [hg]; exact Nat.ne_of_gt (blk_lt (g := gb176) (o := .cells #[.int .i64 a0_0, .int .i64 a0_1, .slice A0_2 l0_2.length c0_2, .int .i64 a0_3, .int .i64 a0_4] 68 (0, 0)) (zh BK176)) : gb182 ≠ gb176))
       clear HO_4
       clear BK176
       clear HB
       have HO_4 := n0_
       have BK176 := n1_
       have HB := n2_
       have BK182 := n3_
       have GW182 := n4_
       have GE182 := n5_
       have NB176_182 := n6_
       have NB182_176 := n7_
       clear n0_ n1_ n2_ n3_ n4_ n5_ n6_ n7_
       clear hb hbox hg
       refine hK.out _ _ ⟨(blk_cell BK176.out 0).trans rfl, (blk_cell BK176.out 1).trans rfl, (blk_cell BK176.out 2).trans rfl, (blk_cell BK176.out 3).trans rfl, (blk_cell BK176.out 4).trans rfl⟩ (fun hHeld => ?_)
       clear hK K
       refine norm_ (a' := ?_) ?_ ?_
       rotate_left
       ·show Act.put _ (some 7) _ = _
        simp only [Act.put, List.setIfInBounds_toArray, List.set_cons_zero, List.set_cons_succ, i64_w, i32_w]
        rfl
       exact norm_ (by simp only [putAll, Act.put, List.setIfInBounds_toArray, List.set_cons_zero, List.set_cons_succ]) (hCont (gb182) _ ⟨hHeld, (by (with_reducible repeat (first | apply Kd.R_alloc | apply Kd.R_drewN | apply Kd.R_drew)); exact Kd.R_mono HO_4.out (fun _ hk => hk.2)), (zh BK176), (zh BK182), GW182.out, GE182.out, NB176_182.out, NB182_176.out, (zs2 HB GE176 GE182)⟩)
      ·skip
       refine box_step (by rfl) (N := 7) (by rfl) (cs := #[.int .i64 0, .int .i64 0]) (t := 110) zg ?_
       intro gb182 hg w19 hbox hb
       have n0_ := zA (Kd.R_below (Kd.R_elderB (zr HO_4) gb182 (Nat.le_of_eq hg.symm)) hb)
       have n1_ := zb BK176 hb
       have n2_ := zA (below_step (zs1 HB GE176) hb)
       have n3_ := zA (hbox)
       have n4_ := zA ((by rw [hg]; exact (below_size (zs1 HB GE176)) : w.heap.size ≤ gb182))
       have n5_ := zA ((by rw [hg]; exact (below_size (zs1 HB GE176)) : w.heap.size ≤ gb182))
       have n6_ := zA ((by rw [hg]; exact Nat.ne_of_lt (blk_lt (g := gb176) (o := .cells #[.int .i64 a0_0, .int .i64 a0_1, .slice A0_2 l0_2.length c0_2, .int .i64 a0_3, .int .i64 a0_4] 68 (0, 0)) (zh BK176)) : gb176 ≠ gb182))
       have n7_ := zA ((by rw [hg]; exact Nat.ne_of_gt (blk_lt (g := gb176) (o := .cells #[.int .i64 a0_0, .int .i64 a0_1, .slice A0_2 l0_2.length c0_2, .int .i64 a0_3, .int .i64 a0_4] 68 (0, 0)) (zh BK176)) : gb182 ≠ gb176))
       clear HO_4
       clear BK176
       clear HB
       have HO_4 := n0_
       have BK176 := n1_
       have HB := n2_
       have BK182 := n3_
       have GW182 := n4_
       have GE182 := n5_
       have NB176_182 := n6_
       have NB182_176 := n7_
       clear n0_ n1_ n2_ n3_ n4_ n5_ n6_ n7_
       clear hb hbox hg
       refine hK.out _ _ ⟨(blk_cell BK176.out 0).trans rfl, (blk_cell BK176.out 1).trans rfl, (blk_cell BK176.out 2).trans rfl, (blk_cell BK176.out 3).trans rfl, (blk_cell BK176.out 4).trans rfl⟩ (fun hHeld => ?_)
       clear hK K
       refine norm_ (a' := ?_) ?_ ?_
       rotate_left
       ·show Act.put _ (some 7) _ = _
        simp only [Act.put, List.setIfInBounds_toArray, List.set_cons_zero, List.set_cons_succ, i64_w, i32_w]
        rfl
       refine one_ (i := 5) (N := some 23) #[T,T,T,T,T,T,F,T,F] rfl rfl (one_of HT_.out (by kernel_rfl)) (by decide) (fun K hK => ?_)
       refine goes_ Try.func153 (by kernel_rfl) rfl #[.agg #[.int .i64 a0_0, .int .i64 a0_1, .slice A0_2 l0_2.length c0_2, .int .i64 a0_3, .int .i64 a0_4], .int .i64 x6_1] (by rfl) rfl rfl zl ?_
       with_reducible refine (spec_l23High.calls a0_0 a0_1 _ _ l0_2 a0_3 a0_4 x6_1 t181 _ ?side1 ?side2 A8.out).mono ?_
       (case side1 => exact zC HR0_2 HB)
       (case side2 => exact HC0_2.out)
       rintro e w20 ⟨rfl, hb⟩
       refine ⟨_, rfl, ?_⟩
       have n0_ := zA (Kd.R_below (zr HO_4) hb)
       have n1_ := zb BK176 hb
       have n2_ := zb BK182 hb
       have n3_ := zA (below_step (zs2 HB GE176 GE182) hb)
       clear HO_4 BK176 BK182 HB
       revert n0_ n1_ n2_ n3_
       intro HO_4 BK176 BK182 HB
       (try clear hb)
       (try clear hb2)
       (try clear hk)
       (try clear hi)
       refine hK.out _ _ ⟨(blk_cell BK176.out 0).trans rfl, (blk_cell BK176.out 1).trans rfl, (blk_cell BK176.out 2).trans rfl, (blk_cell BK176.out 3).trans rfl, (blk_cell BK176.out 4).trans rfl⟩ (fun hHeld => ?_)
       clear hK K
       refine norm_ (a' := ?_) ?_ ?_
       rotate_left
       ·show Act.put _ (some 23) _ = _
        simp only [Act.put, List.setIfInBounds_toArray, List.set_cons_zero, List.set_cons_succ, i64_w, i32_w]
        rfl
       refine pure_ (i := 6) (N := some 24) (v := ?_) (a' := ?_) #[T,T,T,T,T,T,T,T,F] rfl rfl (any_of HT_.out (by kernel_rfl)) (fun _ _ _ h => h) (Or.inl ⟨by rfl, ?_⟩) ?_ ?_; rotate_left; exact zy; rotate_left; exact zput
       exact norm_ (by simp only [putAll, Act.put, List.setIfInBounds_toArray, List.set_cons_zero, List.set_cons_succ]) (hCont (gb182) _ ⟨hHeld, (by (with_reducible repeat (first | apply Kd.R_alloc | apply Kd.R_drewN | apply Kd.R_drew)); exact Kd.R_mono HO_4.out (fun _ hk => hk.2)), (zh BK176), (zh BK182), GW182.out, GE182.out, NB176_182.out, NB182_176.out, (zs2 HB GE176 GE182)⟩)
     ·skip
      refine box_step (by rfl) (N := 7) (by rfl) (cs := #[.int .i64 0, .int .i64 0]) (t := 110) zg ?_
      intro gb182 hg w18 hbox hb
      have n0_ := zA (Kd.R_below (Kd.R_elderB (zr HO_4) gb182 (Nat.le_of_eq hg.symm)) hb)
      have n1_ := zb BK176 hb
      have n2_ := zA (below_step (zs1 HB GE176) hb)
      have n3_ := zA (hbox)
      have n4_ := zA ((by rw [hg]; exact (below_size (zs1 HB GE176)) : w.heap.size ≤ gb182))
      have n5_ := zA ((by rw [hg]; exact (below_size (zs1 HB GE176)) : w.heap.size ≤ gb182))
      have n6_ := zA ((by rw [hg]; exact Nat.ne_of_lt (blk_lt (g := gb176) (o := .cells #[.int .i64 a0_0, .int .i64 a0_1, .slice A0_2 l0_2.length c0_2, .int .i64 a0_3, .int .i64 a0_4] 68 (0, 0)) (zh BK176)) : gb176 ≠ gb182))
      have n7_ := zA ((by rw [hg]; exact Nat.ne_of_gt (blk_lt (g := gb176) (o := .cells #[.int .i64 a0_0, .int .i64 a0_1, .slice A0_2 l0_2.length c0_2, .int .i64 a0_3, .int .i64 a0_4] 68 (0, 0)) (zh BK176)) : gb182 ≠ gb176))
      clear HO_4
      clear BK176
      clear HB
      have HO_4 := n0_
      have BK176 := n1_
      have HB := n2_
      have BK182 := n3_
      have GW182 := n4_
      have GE182 := n5_
      have NB176_182 := n6_
      have NB182_176 := n7_
      clear n0_ n1_ n2_ n3_ n4_ n5_ n6_ n7_
      clear hb hbox hg
      refine hK.out _ _ ⟨(blk_cell BK176.out 0).trans rfl, (blk_cell BK176.out 1).trans rfl, (blk_cell BK176.out 2).trans rfl, (blk_cell BK176.out 3).trans rfl, (blk_cell BK176.out 4).trans rfl⟩ (fun hHeld => ?_)
      clear hK K
      refine norm_ (a' := ?_) ?_ ?_
      rotate_left
      ·show Act.put _ (some 7) _ = _
       simp only [Act.put, List.setIfInBounds_toArray, List.set_cons_zero, List.set_cons_succ, i64_w, i32_w]
       rfl
      refine one_ (i := 2) (N := some 20) #[T,T,T,T,T,F,F,T,F] rfl rfl (one_of HT_.out (by kernel_rfl)) (by decide) (fun K hK => ?_)
      refine goes_ Try.func152 (by kernel_rfl) rfl #[.agg #[.int .i64 a0_0, .int .i64 a0_1, .slice A0_2 l0_2.length c0_2, .int .i64 a0_3, .int .i64 a0_4], .int .i64 x6_1] (by rfl) rfl rfl zl ?_
      with_reducible refine (spec_l23Low.calls a0_0 a0_1 _ _ l0_2 a0_3 a0_4 x6_1 t180 _ ?side1 ?side2 A7.out).mono ?_
      (case side1 => exact zC HR0_2 HB)
      (case side2 => exact HC0_2.out)
      rintro e w19 ⟨rfl, hb⟩
      refine ⟨_, rfl, ?_⟩
      have n0_ := zA (Kd.R_below (zr HO_4) hb)
      have n1_ := zb BK176 hb
      have n2_ := zb BK182 hb
      have n3_ := zA (below_step (zs2 HB GE176 GE182) hb)
      clear HO_4 BK176 BK182 HB
      revert n0_ n1_ n2_ n3_
      intro HO_4 BK176 BK182 HB
      (try clear hb)
      (try clear hb2)
      (try clear hk)
      (try clear hi)
      refine hK.out _ _ ⟨(blk_cell BK176.out 0).trans rfl, (blk_cell BK176.out 1).trans rfl, (blk_cell BK176.out 2).trans rfl, (blk_cell BK176.out 3).trans rfl, (blk_cell BK176.out 4).trans rfl⟩ (fun hHeld => ?_)
      clear hK K
      refine norm_ (a' := ?_) ?_ ?_
      rotate_left
      ·show Act.put _ (some 20) _ = _
       simp only [Act.put, List.setIfInBounds_toArray, List.set_cons_zero, List.set_cons_succ, i64_w, i32_w]
       rfl
      refine one_ (i := 5) (N := some 23) #[T,T,T,T,T,T,F,T,F] rfl rfl (one_of HT_.out (by kernel_rfl)) (by decide) (fun K hK => ?_)
      refine goes_ Try.func153 (by kernel_rfl) rfl #[.agg #[.int .i64 a0_0, .int .i64 a0_1, .slice A0_2 l0_2.length c0_2, .int .i64 a0_3, .int .i64 a0_4], .int .i64 x6_1] (by rfl) rfl rfl zl ?_
      with_reducible refine (spec_l23High.calls a0_0 a0_1 _ _ l0_2 a0_3 a0_4 x6_1 t181 _ ?side1 ?side2 A8.out).mono ?_
      (case side1 => exact zC HR0_2 HB)
      (case side2 => exact HC0_2.out)
      rintro e w20 ⟨rfl, hb⟩
      refine ⟨_, rfl, ?_⟩
      have n0_ := zA (Kd.R_below (zr HO_4) hb)
      have n1_ := zb BK176 hb
      have n2_ := zb BK182 hb
      have n3_ := zA (below_step (zs2 HB GE176 GE182) hb)
      clear HO_4 BK176 BK182 HB
      revert n0_ n1_ n2_ n3_
      intro HO_4 BK176 BK182 HB
      (try clear hb)
      (try clear hb2)
      (try clear hk)
      (try clear hi)
      refine hK.out _ _ ⟨(blk_cell BK176.out 0).trans rfl, (blk_cell BK176.out 1).trans rfl, (blk_cell BK176.out 2).trans rfl, (blk_cell BK176.out 3).trans rfl, (blk_cell BK176.out 4).trans rfl⟩ (fun hHeld => ?_)
      clear hK K
      refine norm_ (a' := ?_) ?_ ?_
      rotate_left
      ·show Act.put _ (some 23) _ = _
       simp only [Act.put, List.setIfInBounds_toArray, List.set_cons_zero, List.set_cons_succ, i64_w, i32_w]
       rfl
      refine pure_ (i := 6) (N := some 24) (v := ?_) (a' := ?_) #[T,T,T,T,T,T,T,T,F] rfl rfl (any_of HT_.out (by kernel_rfl)) (fun _ _ _ h => h) (Or.inl ⟨by rfl, ?_⟩) ?_ ?_; rotate_left; exact zy; rotate_left; exact zput
      exact norm_ (by simp only [putAll, Act.put, List.setIfInBounds_toArray, List.set_cons_zero, List.set_cons_succ]) (hCont (gb182) _ ⟨hHeld, (by (with_reducible repeat (first | apply Kd.R_alloc | apply Kd.R_drewN | apply Kd.R_drew)); exact Kd.R_mono HO_4.out (fun _ hk => hk.2)), (zh BK176), (zh BK182), GW182.out, GE182.out, NB176_182.out, NB182_176.out, (zs2 HB GE176 GE182)⟩)
    rintro gb182 w21 ⟨hS_, h0_, h1_, h2_, h3_, h4_, h5_, h6_, h7_⟩
    have n0_ : Aside0 (Kd.R k110 110 w21 w.heap.size (fun k_ => k_ ≠ gb182) u4 x4_1) := ⟨h0_⟩
    have n1_ : Aside0 (w21.heap[gb176]? = some (.cells #[.int .i64 a0_0, .int .i64 a0_1, .slice A0_2 l0_2.length c0_2, .int .i64 a0_3, .int .i64 a0_4] 68 (0, 0))) := ⟨h1_⟩
    have n2_ : Aside0 (w21.heap[gb182]? = some (.cells #[.int .i64 0, .int .i64 0] 110 (0, 0))) := ⟨h2_⟩
    have n3_ : Aside0 (w.heap.size ≤ gb182) := ⟨h3_⟩
    have n4_ : Aside0 (w.heap.size ≤ gb182) := ⟨h4_⟩
    have n5_ : Aside0 (gb176 ≠ gb182) := ⟨h5_⟩
    have n6_ : Aside0 (gb182 ≠ gb176) := ⟨h6_⟩
    have n7_ : Aside0 (Below w.heap.size w w21) := ⟨h7_⟩
    clear HO_4
    clear BK176
    clear HB
    clear h0_ h1_ h2_ h3_ h4_ h5_ h6_ h7_
    have HO_4 := n0_
    have BK176 := n1_
    have BK182 := n2_
    have GW182 := n3_
    have GE182 := n4_
    have NB176_182 := n5_
    have NB182_176 := n6_
    have HB := n7_
    clear n0_ n1_ n2_ n3_ n4_ n5_ n6_ n7_
    have hHeld : w21.cell? ⟨gb176, 0, none⟩ = some (.int .i64 a0_0) ∧ w21.cell? ⟨gb176, 1, none⟩ = some (.int .i64 a0_1) ∧ w21.cell? ⟨gb176, 2, none⟩ = some (.slice A0_2 l0_2.length c0_2) ∧ w21.cell? ⟨gb176, 3, none⟩ = some (.int .i64 a0_3) ∧ w21.cell? ⟨gb176, 4, none⟩ = some (.int .i64 a0_4) := hS_
    refine norm_ (a' := ?_) ?_ ?_
    rotate_left
    ·simp only [putAll, Act.put, List.setIfInBounds_toArray, List.set_cons_zero, List.set_cons_succ]
     rfl
    refine one_ (i := 8) (N := none) #[T,T,T,T,T,T,T,T,T] rfl rfl (one_of HT_.out (by kernel_rfl)) (by decide) (fun K hK => ?_)
    have hs22 : w21.cell? ⟨gb182, 0, none⟩ = some (.int .i64 0) := (blk_cell BK182.out 0).trans rfl
    have hfs22 := zf BK182 0
    have hns22_0 := NB176_182.out
    have hms22_0 := NB182_176.out
    have hs23 : w21.cell? ⟨gb182, 1, none⟩ = some (.int .i64 0) := (blk_cell BK182.out 1).trans rfl
    have hfs23 := zf BK182 1
    have hns23_0 := NB176_182.out
    have hms23_0 := NB182_176.out
    refine skip_ (w1 := ?_) (by rfl) rfl ?_ ?_
    rotate_left
    ·go_simp
     rfl
    refine hK.out _ _ ⟨((cell_far (p := ⟨gb182, _, none⟩) NB176_182.out _).trans (((cell_far (p := ⟨gb182, _, none⟩) NB176_182.out _).trans (hHeld.1)))), ((cell_far (p := ⟨gb182, _, none⟩) NB176_182.out _).trans (((cell_far (p := ⟨gb182, _, none⟩) NB176_182.out _).trans (hHeld.2.1)))), ((cell_far (p := ⟨gb182, _, none⟩) NB176_182.out _).trans (((cell_far (p := ⟨gb182, _, none⟩) NB176_182.out _).trans (hHeld.2.2.1)))), ((cell_far (p := ⟨gb182, _, none⟩) NB176_182.out _).trans (((cell_far (p := ⟨gb182, _, none⟩) NB176_182.out _).trans (hHeld.2.2.2.1)))), ((cell_far (p := ⟨gb182, _, none⟩) NB176_182.out _).trans (((cell_far (p := ⟨gb182, _, none⟩) NB176_182.out _).trans (hHeld.2.2.2.2))))⟩ (fun hHeld => ?_)
    clear hK K
    refine done_ (done_of HT_.out (by kernel_rfl)) ?_
    try go_wp2
    have n0_ : Aside0 (Kd.R k110 110 ((w21.setCell ⟨gb182, 0, none⟩ (.int .i64 t180)).setCell ⟨gb182, 1, none⟩ (.int .i64 t181)) w.heap.size (fun k_ => k_ ≠ gb182) u4 x4_1) := ⟨by (with_reducible repeat (first | apply Kd.R_alloc | apply Kd.R_drewN | apply Kd.R_drew)); exact Kd.R_mono (Kd.R_far (p := ⟨gb182, 1, none⟩) (Kd.R_far (p := ⟨gb182, 0, none⟩) (Kd.R_mono HO_4.out (fun k_ hk => (⟨hk, hk⟩ : _ ∧ k_ ≠ gb182))) (fun _ hk => hk.2) (.int .i64 t180)) (fun _ hk => hk.2) (.int .i64 t181)) (fun _ hk => hk.1)⟩
    have n1_ : Aside0 (((w21.setCell ⟨gb182, 0, none⟩ (.int .i64 t180)).setCell ⟨gb182, 1, none⟩ (.int .i64 t181)).heap[gb176]? = some (.cells #[.int .i64 a0_0, .int .i64 a0_1, .slice A0_2 l0_2.length c0_2, .int .i64 a0_3, .int .i64 a0_4] 68 (0, 0))) := ⟨by (with_reducible repeat (first | refine blk_drewN ?_ _ | refine blk_drew ?_ | refine blk_alloc ?_ _)); refine blk_far ?_ NB176_182.out _; (with_reducible repeat (first | refine blk_drewN ?_ _ | refine blk_drew ?_ | refine blk_alloc ?_ _)); refine blk_far ?_ NB176_182.out _; (with_reducible repeat (first | refine blk_drewN ?_ _ | refine blk_drew ?_ | refine blk_alloc ?_ _)); exact BK176.out⟩
    have n2_ : Aside0 (((w21.setCell ⟨gb182, 0, none⟩ (.int .i64 t180)).setCell ⟨gb182, 1, none⟩ (.int .i64 t181)).heap[gb182]? = some (.cells #[.int .i64 t180, .int .i64 t181] 110 (0, 0))) := ⟨by (with_reducible repeat (first | refine blk_drewN ?_ _ | refine blk_drew ?_ | refine blk_alloc ?_ _)); refine blk_put (cs := #[.int .i64 t180, .int .i64 0]) ?_ 1 _ rfl; (with_reducible repeat (first | refine blk_drewN ?_ _ | refine blk_drew ?_ | refine blk_alloc ?_ _)); refine blk_put (cs := #[.int .i64 0, .int .i64 0]) ?_ 0 _ rfl; (with_reducible repeat (first | refine blk_drewN ?_ _ | refine blk_drew ?_ | refine blk_alloc ?_ _)); exact BK182.out⟩
    have n3_ : Aside0 (Below w.heap.size w ((w21.setCell ⟨gb182, 0, none⟩ (.int .i64 t180)).setCell ⟨gb182, 1, none⟩ (.int .i64 t181))) := ⟨zs2 HB GE176 GE182⟩
    (try clear HO_4)
    (try clear BK176)
    (try clear BK182)
    (try clear HB)
    generalize ((w21.setCell ⟨gb182, 0, none⟩ (.int .i64 t180)).setCell ⟨gb182, 1, none⟩ (.int .i64 t181)) = w24 at n0_ n1_ n2_ n3_ ⊢
    have HO_4 := n0_
    have BK176 := n1_
    have BK182 := n2_
    have HB := n3_
    clear n0_ n1_ n2_ n3_
    have n0_ := zA (Kd.R_drew HO_4.out)
    have n1_ := zA (blk_drew BK176.out)
    have n2_ := zA (blk_drew BK182.out)
    have n3_ := zA (below_drew1 HB.out)
    clear HO_4 BK176 BK182 HB
    revert n0_ n1_ n2_ n3_
    intro HO_4 BK176 BK182 HB
    obtain ⟨Ao26, co26, eo26⟩ := Kd.R_slice HO_4.out
    (first | subst eo26 | (injection eo26 with f1_ f2_ f3_; have f4_ := f1_.symm; have f5_ := f3_.symm; clear f1_ f2_ f3_; subst f4_; subst f5_))
    have p183 : 0 ≤ ((ji10) : Int) := za
    have q183 : (ji10) < (x4_1.length : Int) := za
    obtain ⟨ad183, e183, hx183_0, hx183_1⟩ := at_T110 (Kd.R_reads' HO_4.out).2.2 (ji10) p183 q183
    cases e183
    replace p183 := eq_true p183
    replace q183 := eq_true q183
    refine start_ (n := 15) (S := fun w' => w'.cell? ⟨gb182, 0, none⟩ = some (.int .i64 t180) ∧ w'.cell? ⟨gb182, 1, none⟩ = some (.int .i64 t181) ∧ w'.cell? ⟨gb176, 0, none⟩ = some (.int .i64 a0_0) ∧ w'.cell? ⟨gb176, 1, none⟩ = some (.int .i64 a0_1) ∧ w'.cell? ⟨gb176, 2, none⟩ = some (.slice A0_2 l0_2.length c0_2) ∧ w'.cell? ⟨gb176, 3, none⟩ = some (.int .i64 a0_3) ∧ w'.cell? ⟨gb176, 4, none⟩ = some (.int .i64 a0_4) ∧ w'.cell? (ad183.add (((ji10)).toNat * 2)) = some (.int .i64 ((rd_T110 x4_1 (ji10)).f0)) ∧ w'.cell? ⟨(ad183.add (((ji10)).toNat * 2)).block, (ad183.add (((ji10)).toNat * 2)).off + 1, none⟩ = some (.int .i64 ((rd_T110 x4_1 (ji10)).f1))) (ds := [14]) #[F,F,F,F,F,F,F,F,F,F,F,F,F,F,F] (by kernel_rfl) rfl rfl ⟨(blk_cell BK182.out 0).trans rfl, (blk_cell BK182.out 1).trans rfl, (blk_cell BK176.out 0).trans rfl, (blk_cell BK176.out 1).trans rfl, (blk_cell BK176.out 2).trans rfl, (blk_cell BK176.out 3).trans rfl, (blk_cell BK176.out 4).trans rfl, hx183_0, hx183_1⟩ (fun hHeld => ?_); refine with_tabW spec_l24Spans.tab8 spec_l24Spans.bits8 (fun HT_ HW_ => ?_)
    generalize w24.drew = w25 at HO_4 BK176 BK182 HB hx183_0 hx183_1 hHeld ⊢
    refine pure_ (i := 0) (N := some 27) (v := ?_) (a' := ?_) #[T,F,F,F,F,F,F,F,F,F,F,F,F,F,F] rfl rfl (any_of HT_.out (by kernel_rfl)) (fun _ _ _ h => h) (Or.inl ⟨by rfl, ?_⟩) ?_ ?_; rotate_left; exact zy; rotate_left; exact zput
    refine pure_ (i := 2) (N := some 29) (v := ?_) (a' := ?_) #[T,F,T,F,F,F,F,F,F,F,F,F,F,F,F] rfl rfl (any_of HT_.out (by kernel_rfl)) (fun _ _ _ h => h) (Or.inl ⟨by rfl, ?_⟩) ?_ ?_; rotate_left; exact zy; rotate_left; exact zput
    refine pure_ (i := 3) (N := some 30) (v := ?_) (a' := ?_) #[T,F,T,T,F,F,F,F,F,F,F,F,F,F,F] rfl rfl (any_of HT_.out (by kernel_rfl)) (fun _ _ _ h => h) (Or.inl ⟨by rfl, ?_⟩) ?_ ?_; rotate_left; exact zy; rotate_left; exact zput
    refine pure_ (i := 4) (N := some 31) (v := ?_) (a' := ?_) #[T,F,T,T,T,F,F,F,F,F,F,F,F,F,F] rfl rfl (any_of HT_.out (by kernel_rfl)) (fun _ _ _ h => h) (Or.inl ⟨by rfl, ?_⟩) ?_ ?_; rotate_left; exact zy; rotate_left; exact zput
    refine pure_ (i := 5) (N := some 32) (v := ?_) (a' := ?_) #[T,F,T,T,T,T,F,F,F,F,F,F,F,F,F] rfl rfl (any_of HT_.out (by kernel_rfl)) (fun _ _ _ h => h) (Or.inl ⟨by rfl, ?_⟩) ?_ ?_; rotate_left; exact zy; rotate_left; exact zput
    refine pure_ (i := 6) (N := some 33) (v := ?_) (a' := ?_) #[T,F,T,T,T,T,T,F,F,F,F,F,F,F,F] rfl rfl (any_of HT_.out (by kernel_rfl)) (fun _ _ _ h => h) (Or.inl ⟨by rfl, ?_⟩) ?_ ?_; rotate_left; exact zy; rotate_left; exact zput
    refine pure_ (i := 8) (N := some 35) (v := ?_) (a' := ?_) #[T,F,T,T,T,T,T,F,T,F,F,F,F,F,F] rfl rfl (any_of HT_.out (by kernel_rfl)) (fun _ _ _ h => h) (Or.inl ⟨by rfl, ?_⟩) ?_ ?_; rotate_left; exact zy; rotate_left; exact zput
    refine pure_ (i := 9) (N := some 36) (v := ?_) (a' := ?_) #[T,F,T,T,T,T,T,F,T,T,F,F,F,F,F] rfl rfl (any_of HT_.out (by kernel_rfl)) (fun _ _ _ h => h) (Or.inl ⟨by rfl, ?_⟩) ?_ ?_; rotate_left; exact zy; rotate_left; exact zput
    refine take_ (i := 1) (N := some 28) (v := ?_) (a' := ?_) #[T,T,T,T,T,T,T,F,T,T,F,F,F,F,F] rfl rfl (take_ofW HT_.out HW_.out (by kernel_rfl)) (fun _ _ _ h => h) (Or.inl ⟨by rfl, ?_⟩) hHeld ?_ ?_; rotate_left; exact zt9; rotate_left; exact zput
    refine take_ (i := 7) (N := some 34) (v := ?_) (a' := ?_) #[T,T,T,T,T,T,T,T,T,T,F,F,F,F,F] rfl rfl (take_ofW HT_.out HW_.out (by kernel_rfl)) (fun _ _ _ h => h) (Or.inl ⟨by rfl, ?_⟩) hHeld ?_ ?_; rotate_left; exact zt9; rotate_left; exact zput
    refine take_ (i := 10) (N := some 37) (v := ?_) (a' := ?_) #[T,T,T,T,T,T,T,T,T,T,T,F,F,F,F] rfl rfl (take_ofW HT_.out HW_.out (by kernel_rfl)) (fun _ _ _ h => h) (Or.inl ⟨by rfl, ?_⟩) hHeld ?_ ?_; rotate_left; exact zt9; rotate_left; exact zput
    refine pure_ (i := 11) (N := some 38) (v := ?_) (a' := ?_) #[T,T,T,T,T,T,T,T,T,T,T,T,F,F,F] rfl rfl (any_of HT_.out (by kernel_rfl)) (fun _ _ _ h => h) (Or.inl ⟨by rfl, ?_⟩) ?_ ?_; rotate_left; exact zy; rotate_left; exact zput
    refine one_ (i := 12) (N := some 39) #[T,T,T,T,T,T,T,T,T,T,T,T,T,F,F] rfl rfl (one_of HT_.out (by kernel_rfl)) (by decide) (fun K hK => ?_)
    refine goes_ Try.func130 (by kernel_rfl) rfl #[.int .i64 t180, .int .i64 (wrap64 (((rd_T110 x4_1 (ji10)).f0) + a0_0))] (by rfl) rfl rfl (by (try simp only [List.map_toArray, List.map_cons, List.map_nil]); first | done | (simp only [hji10]; rfl) | rfl | (simp only [List.length_drop, List.length_take]; rfl)) ?_
    with_reducible refine (spec_l21Max.calls t180 (wrap64 (((rd_T110 x4_1 (ji10)).f0) + a0_0)) t184 _ A13.out).mono ?_
    rintro e w' ⟨rfl, ⟨nd, rfl⟩⟩
    refine ⟨_, rfl, ?_⟩
    refine hK.out _ _ ⟨(blk_cell BK182.out 0).trans rfl, (blk_cell BK182.out 1).trans rfl, (blk_cell BK176.out 0).trans rfl, (blk_cell BK176.out 1).trans rfl, (blk_cell BK176.out 2).trans rfl, (blk_cell BK176.out 3).trans rfl, (blk_cell BK176.out 4).trans rfl, hHeld.2.2.2.2.2.2.2.1, hHeld.2.2.2.2.2.2.2.2⟩ (fun hHeld => ?_)
    clear hK K
    refine norm_ (a' := ?_) ?_ ?_
    rotate_left
    ·show Act.put _ (some 39) _ = _
     simp only [Act.put, List.setIfInBounds_toArray, List.set_cons_zero, List.set_cons_succ, i64_w, i32_w]
     rfl
    refine pure_ (i := 13) (N := some 40) (v := ?_) (a' := ?_) #[T,T,T,T,T,T,T,T,T,T,T,T,T,T,F] rfl rfl (any_of HT_.out (by kernel_rfl)) (fun _ _ _ h => h) (Or.inl ⟨by rfl, ?_⟩) ?_ ?_; rotate_left; exact zy; rotate_left; exact zput
    refine last_ (i := 14) (N := none) #[T,T,T,T,T,T,T,T,T,T,T,T,T,T,T] rfl rfl (one_of HT_.out (by kernel_rfl)) (by decide) (fun K hK => ?_)
    have hs27 : w25.cell? ⟨gb182, 0, none⟩ = some (.int .i64 t180) := (blk_cell BK182.out 0).trans rfl
    have hfs27 := zf BK182 0
    have hns27_0 := NB176_182.out
    have hms27_0 := NB182_176.out
    refine skip_ (w1 := ?_) (by rfl) rfl ?_ ?_
    rotate_left
    ·go_simp
     rfl
    refine hK.out _ _ ?_
    clear hK K
    refine done_ (done_of HT_.out (by kernel_rfl)) ?_
    try go_wp2
    have n0_ : Aside0 (Kd.R k110 110 (w25.setCell ⟨gb182, 0, none⟩ (.int .i64 t184)) w.heap.size (fun k_ => k_ ≠ gb182) (.slice (some ad183) x4_1.length co26) x4_1) := ⟨by (with_reducible repeat (first | apply Kd.R_alloc | apply Kd.R_drewN | apply Kd.R_drew)); exact Kd.R_mono (Kd.R_far (p := ⟨gb182, 0, none⟩) (Kd.R_mono HO_4.out (fun k_ hk => (⟨hk, hk⟩ : _ ∧ k_ ≠ gb182))) (fun _ hk => hk.2) (.int .i64 t184)) (fun _ hk => hk.1)⟩
    have n1_ : Aside0 ((w25.setCell ⟨gb182, 0, none⟩ (.int .i64 t184)).heap[gb176]? = some (.cells #[.int .i64 a0_0, .int .i64 a0_1, .slice A0_2 l0_2.length c0_2, .int .i64 a0_3, .int .i64 a0_4] 68 (0, 0))) := ⟨by (with_reducible repeat (first | refine blk_drewN ?_ _ | refine blk_drew ?_ | refine blk_alloc ?_ _)); refine blk_far ?_ NB176_182.out _; (with_reducible repeat (first | refine blk_drewN ?_ _ | refine blk_drew ?_ | refine blk_alloc ?_ _)); exact BK176.out⟩
    have n2_ : Aside0 ((w25.setCell ⟨gb182, 0, none⟩ (.int .i64 t184)).heap[gb182]? = some (.cells #[.int .i64 t184, .int .i64 t181] 110 (0, 0))) := ⟨by (with_reducible repeat (first | refine blk_drewN ?_ _ | refine blk_drew ?_ | refine blk_alloc ?_ _)); refine blk_put (cs := #[.int .i64 t180, .int .i64 t181]) ?_ 0 _ rfl; (with_reducible repeat (first | refine blk_drewN ?_ _ | refine blk_drew ?_ | refine blk_alloc ?_ _)); exact BK182.out⟩
    have n3_ : Aside0 (Below w.heap.size w (w25.setCell ⟨gb182, 0, none⟩ (.int .i64 t184))) := ⟨zs2 HB GE176 GE182⟩
    (try clear HO_4)
    (try clear BK176)
    (try clear BK182)
    (try clear HB)
    generalize (w25.setCell ⟨gb182, 0, none⟩ (.int .i64 t184)) = w28 at n0_ n1_ n2_ n3_ ⊢
    have HO_4 := n0_
    have BK176 := n1_
    have BK182 := n2_
    have HB := n3_
    clear n0_ n1_ n2_ n3_
    (try (rw [drewN_self w28]; generalize hq_ : World.drewN w28 _ = w28; have n0_ : Aside0 (Kd.R k110 110 w28 w.heap.size (fun k_ => k_ ≠ gb182) (.slice (some ad183) x4_1.length co26) x4_1) := ⟨by rw [← hq_]; exact (zr HO_4)⟩; have n1_ : Aside0 (w28.heap[gb176]? = some (.cells #[.int .i64 a0_0, .int .i64 a0_1, .slice A0_2 l0_2.length c0_2, .int .i64 a0_3, .int .i64 a0_4] 68 (0, 0))) := ⟨by rw [← hq_]; exact (zh BK176)⟩; have n2_ : Aside0 (w28.heap[gb182]? = some (.cells #[.int .i64 t184, .int .i64 t181] 110 (0, 0))) := ⟨by rw [← hq_]; exact (zh BK182)⟩; have n3_ : Aside0 (Below w.heap.size w w28) := ⟨by rw [← hq_]; exact (zs2 HB GE176 GE182)⟩; clear HO_4 BK176 BK182 HB hq_; have HO_4 := n0_; have BK176 := n1_; have BK182 := n2_; have HB := n3_; clear n0_ n1_ n2_ n3_))
    have n0_ := zA (Kd.R_drew HO_4.out)
    have n1_ := zA (blk_drew BK176.out)
    have n2_ := zA (blk_drew BK182.out)
    have n3_ := zA (below_drew1 HB.out)
    clear HO_4 BK176 BK182 HB
    revert n0_ n1_ n2_ n3_
    intro HO_4 BK176 BK182 HB
    have p185 : 0 ≤ ((ji10) : Int) := za
    have q185 : (ji10) < (x4_1.length : Int) := za
    obtain ⟨ad185, e185, hx185_0, hx185_1⟩ := at_T110 (Kd.R_reads' HO_4.out).2.2 (ji10) p185 q185
    obtain rfl : ad183 = ad185 := (by injection e185)
    replace p185 := eq_true p185
    replace q185 := eq_true q185
    refine start_ (n := 16) (S := fun w' => w'.cell? ⟨gb182, 0, none⟩ = some (.int .i64 t184) ∧ w'.cell? ⟨gb182, 1, none⟩ = some (.int .i64 t181) ∧ w'.cell? ⟨gb176, 0, none⟩ = some (.int .i64 a0_0) ∧ w'.cell? ⟨gb176, 1, none⟩ = some (.int .i64 a0_1) ∧ w'.cell? ⟨gb176, 2, none⟩ = some (.slice A0_2 l0_2.length c0_2) ∧ w'.cell? ⟨gb176, 3, none⟩ = some (.int .i64 a0_3) ∧ w'.cell? ⟨gb176, 4, none⟩ = some (.int .i64 a0_4) ∧ w'.cell? (ad183.add (((ji10)).toNat * 2)) = some (.int .i64 ((rd_T110 x4_1 (ji10)).f0)) ∧ w'.cell? ⟨(ad183.add (((ji10)).toNat * 2)).block, (ad183.add (((ji10)).toNat * 2)).off + 1, none⟩ = some (.int .i64 ((rd_T110 x4_1 (ji10)).f1))) (ds := [15]) #[F,F,F,F,F,F,F,F,F,F,F,F,F,F,F,F] (by kernel_rfl) rfl rfl ⟨(blk_cell BK182.out 0).trans rfl, (blk_cell BK182.out 1).trans rfl, (blk_cell BK176.out 0).trans rfl, (blk_cell BK176.out 1).trans rfl, (blk_cell BK176.out 2).trans rfl, (blk_cell BK176.out 3).trans rfl, (blk_cell BK176.out 4).trans rfl, hx185_0, hx185_1⟩ (fun hHeld => ?_); refine with_tabW spec_l24Spans.tab9 spec_l24Spans.bits9 (fun HT_ HW_ => ?_)
    generalize w28.drew = w29 at HO_4 BK176 BK182 HB hx185_0 hx185_1 hHeld ⊢
    refine pure_ (i := 0) (N := some 41) (v := ?_) (a' := ?_) #[T,F,F,F,F,F,F,F,F,F,F,F,F,F,F,F] rfl rfl (any_of HT_.out (by kernel_rfl)) (fun _ _ _ h => h) (Or.inl ⟨by rfl, ?_⟩) ?_ ?_; rotate_left; exact zy; rotate_left; exact zput
    refine pure_ (i := 2) (N := some 43) (v := ?_) (a' := ?_) #[T,F,T,F,F,F,F,F,F,F,F,F,F,F,F,F] rfl rfl (any_of HT_.out (by kernel_rfl)) (fun _ _ _ h => h) (Or.inl ⟨by rfl, ?_⟩) ?_ ?_; rotate_left; exact zy; rotate_left; exact zput
    refine pure_ (i := 3) (N := some 44) (v := ?_) (a' := ?_) #[T,F,T,T,F,F,F,F,F,F,F,F,F,F,F,F] rfl rfl (any_of HT_.out (by kernel_rfl)) (fun _ _ _ h => h) (Or.inl ⟨by rfl, ?_⟩) ?_ ?_; rotate_left; exact zy; rotate_left; exact zput
    refine pure_ (i := 4) (N := some 45) (v := ?_) (a' := ?_) #[T,F,T,T,T,F,F,F,F,F,F,F,F,F,F,F] rfl rfl (any_of HT_.out (by kernel_rfl)) (fun _ _ _ h => h) (Or.inl ⟨by rfl, ?_⟩) ?_ ?_; rotate_left; exact zy; rotate_left; exact zput
    refine pure_ (i := 5) (N := some 46) (v := ?_) (a' := ?_) #[T,F,T,T,T,T,F,F,F,F,F,F,F,F,F,F] rfl rfl (any_of HT_.out (by kernel_rfl)) (fun _ _ _ h => h) (Or.inl ⟨by rfl, ?_⟩) ?_ ?_; rotate_left; exact zy; rotate_left; exact zput
    refine pure_ (i := 6) (N := some 47) (v := ?_) (a' := ?_) #[T,F,T,T,T,T,T,F,F,F,F,F,F,F,F,F] rfl rfl (any_of HT_.out (by kernel_rfl)) (fun _ _ _ h => h) (Or.inl ⟨by rfl, ?_⟩) ?_ ?_; rotate_left; exact zy; rotate_left; exact zput
    refine pure_ (i := 9) (N := some 50) (v := ?_) (a' := ?_) #[T,F,T,T,T,T,T,F,F,T,F,F,F,F,F,F] rfl rfl (any_of HT_.out (by kernel_rfl)) (fun _ _ _ h => h) (Or.inl ⟨by rfl, ?_⟩) ?_ ?_; rotate_left; exact zy; rotate_left; exact zput
    refine pure_ (i := 10) (N := some 51) (v := ?_) (a' := ?_) #[T,F,T,T,T,T,T,F,F,T,T,F,F,F,F,F] rfl rfl (any_of HT_.out (by kernel_rfl)) (fun _ _ _ h => h) (Or.inl ⟨by rfl, ?_⟩) ?_ ?_; rotate_left; exact zy; rotate_left; exact zput
    refine take_ (i := 1) (N := some 42) (v := ?_) (a' := ?_) #[T,T,T,T,T,T,T,F,F,T,T,F,F,F,F,F] rfl rfl (take_ofW HT_.out HW_.out (by kernel_rfl)) (fun _ _ _ h => h) (Or.inl ⟨by rfl, ?_⟩) hHeld ?_ ?_; rotate_left; exact zt9; rotate_left; exact zput
    refine take_ (i := 7) (N := some 48) (v := ?_) (a' := ?_) #[T,T,T,T,T,T,T,T,F,T,T,F,F,F,F,F] rfl rfl (take_ofW HT_.out HW_.out (by kernel_rfl)) (fun _ _ _ h => h) (Or.inl ⟨by rfl, ?_⟩) hHeld ?_ ?_; rotate_left; exact zt9; rotate_left; exact zput
    refine take_ (i := 8) (N := some 49) (v := ?_) (a' := ?_) #[T,T,T,T,T,T,T,T,T,T,T,F,F,F,F,F] rfl rfl (take_ofW HT_.out HW_.out (by kernel_rfl)) (fun _ _ _ h => h) (Or.inl ⟨by rfl, ?_⟩) hHeld ?_ ?_; rotate_left; exact zt9; rotate_left; exact zput
    refine one_ (i := 11) (N := some 52) #[T,T,T,T,T,T,T,T,T,T,T,T,F,F,F,F] rfl rfl (one_of HT_.out (by kernel_rfl)) (by decide) (fun K hK => ?_)
    refine goes_ Try.func154 (by kernel_rfl) rfl #[.agg #[.int .i64 a0_0, .int .i64 a0_1, .slice A0_2 l0_2.length c0_2, .int .i64 a0_3, .int .i64 a0_4], .int .i64 ji10] (by rfl) rfl rfl (by (try simp only [List.map_toArray, List.map_cons, List.map_nil]); first | done | (simp only [hji10]; rfl) | rfl | (simp only [List.length_drop, List.length_take]; rfl)) ?_
    with_reducible refine (spec_l23Most.calls a0_0 a0_1 _ _ l0_2 a0_3 a0_4 ji10 t186 _ ?side1 ?side2 A14.out).mono ?_
    (case side1 => exact zC HR0_2 HB)
    (case side2 => exact HC0_2.out)
    rintro e w30 ⟨rfl, hb⟩
    have HS7_ := (hb.cell (World.block_lt_of_cell? _ _ (hHeld.2.2.2.2.2.2.2.1))).trans (hHeld.2.2.2.2.2.2.2.1)
    have HS8_ := (hb.cell (World.block_lt_of_cell? _ _ (hHeld.2.2.2.2.2.2.2.2))).trans (hHeld.2.2.2.2.2.2.2.2)
    refine ⟨_, rfl, ?_⟩
    have n0_ := zA (Kd.R_below (zr HO_4) hb)
    have n1_ := zb BK176 hb
    have n2_ := zb BK182 hb
    have n3_ := zA (below_step (zs2 HB GE176 GE182) hb)
    clear HO_4 BK176 BK182 HB
    revert n0_ n1_ n2_ n3_
    intro HO_4 BK176 BK182 HB
    (try clear hb)
    (try clear hb2)
    (try clear hk)
    (try clear hi)
    refine hK.out _ _ ⟨(blk_cell BK182.out 0).trans rfl, (blk_cell BK182.out 1).trans rfl, (blk_cell BK176.out 0).trans rfl, (blk_cell BK176.out 1).trans rfl, (blk_cell BK176.out 2).trans rfl, (blk_cell BK176.out 3).trans rfl, (blk_cell BK176.out 4).trans rfl, HS7_, HS8_⟩ (fun hHeld => ?_)
    clear hK K
    refine norm_ (a' := ?_) ?_ ?_
    rotate_left
    ·show Act.put _ (some 52) _ = _
     simp only [Act.put, List.setIfInBounds_toArray, List.set_cons_zero, List.set_cons_succ, i64_w, i32_w]
     rfl
    refine pure_ (i := 12) (N := some 53) (v := ?_) (a' := ?_) #[T,T,T,T,T,T,T,T,T,T,T,T,T,F,F,F] rfl rfl (any_of HT_.out (by kernel_rfl)) (fun _ _ _ h => h) (Or.inl ⟨by rfl, ?_⟩) ?_ ?_; rotate_left; exact zy; rotate_left; exact zput
    refine one_ (i := 13) (N := some 54) #[T,T,T,T,T,T,T,T,T,T,T,T,T,T,F,F] rfl rfl (one_of HT_.out (by kernel_rfl)) (by decide) (fun K hK => ?_)
    refine goes_ Try.func98 (by kernel_rfl) rfl #[.int .i64 t181, .int .i64 (wrap64 (((rd_T110 x4_1 (ji10)).f1) + t186))] (by rfl) rfl rfl (by (try simp only [List.map_toArray, List.map_cons, List.map_nil]); first | done | (simp only [hji10]; rfl) | rfl | (simp only [List.length_drop, List.length_take]; rfl)) ?_
    with_reducible refine (spec_l21Min.calls t181 (wrap64 (((rd_T110 x4_1 (ji10)).f1) + t186)) t187 _ A15.out).mono ?_
    rintro e w' ⟨rfl, ⟨nd, rfl⟩⟩
    refine ⟨_, rfl, ?_⟩
    refine hK.out _ _ ⟨(blk_cell BK182.out 0).trans rfl, (blk_cell BK182.out 1).trans rfl, (blk_cell BK176.out 0).trans rfl, (blk_cell BK176.out 1).trans rfl, (blk_cell BK176.out 2).trans rfl, (blk_cell BK176.out 3).trans rfl, (blk_cell BK176.out 4).trans rfl, hHeld.2.2.2.2.2.2.2.1, hHeld.2.2.2.2.2.2.2.2⟩ (fun hHeld => ?_)
    clear hK K
    refine norm_ (a' := ?_) ?_ ?_
    rotate_left
    ·show Act.put _ (some 54) _ = _
     simp only [Act.put, List.setIfInBounds_toArray, List.set_cons_zero, List.set_cons_succ, i64_w, i32_w]
     rfl
    refine pure_ (i := 14) (N := some 55) (v := ?_) (a' := ?_) #[T,T,T,T,T,T,T,T,T,T,T,T,T,T,T,F] rfl rfl (any_of HT_.out (by kernel_rfl)) (fun _ _ _ h => h) (Or.inl ⟨by rfl, ?_⟩) ?_ ?_; rotate_left; exact zy; rotate_left; exact zput
    refine last_ (i := 15) (N := none) #[T,T,T,T,T,T,T,T,T,T,T,T,T,T,T,T] rfl rfl (one_of HT_.out (by kernel_rfl)) (by decide) (fun K hK => ?_)
    have hs31 : w30.cell? ⟨gb182, 1, none⟩ = some (.int .i64 t181) := (blk_cell BK182.out 1).trans rfl
    have hfs31 := zf BK182 1
    have hns31_0 := NB176_182.out
    have hms31_0 := NB182_176.out
    refine skip_ (w1 := ?_) (by rfl) rfl ?_ ?_
    rotate_left
    ·go_simp
     rfl
    refine hK.out _ _ ?_
    clear hK K
    refine done_ (done_of HT_.out (by kernel_rfl)) ?_
    have hnb32 := NB182_176.out
    have hnc32 := NB176_182.out
    obtain ⟨hcz33_0, hcz33_1⟩ := zd2 BK182
    obtain ⟨hfz33_0, hfz33_1⟩ := zn2 BK182
    try go_wp2_with (first | ((with_reducible refine gate_dst (N := 61) rfl ?_); refine Kd.R_lit k110 _ 110 ?hg (N := 61) ?hd (xs := ([] : List (S110))) (inner := []) (ok := fun _ => True) (okp := fun _ => True) ?hr ?hp (fun _ hk => hk) trivial (Below.refl _ _) (Nat.le_refl _) (by simp) ?_; (case hd => rfl); (case hg => rfl); (case hr => first | (go_simp; done) | (go_simp; rfl)); (case hp => exact (Reps.none _ _)); intro v189 w34 ho35 hb hg_ hnew_; clear hg_ hnew_; (first | rw [← Ny188.out] at ho35 | (simp only [Int.reduceToNat] at ho35; rw [← Ny188.out] at ho35)); have n0_ := zA (Kd.R_elder' (by (with_reducible repeat (first | apply Kd.R_alloc | apply Kd.R_drewN | apply Kd.R_drew)); exact (Kd.R_mono (Kd.R_far (p := ⟨gb182, 1, none⟩) (Kd.R_mono HO_4.out (fun k_ hk => (⟨hk, hk⟩ : _ ∧ k_ ≠ gb182))) (fun _ hk => hk.2) (.int .i64 t187)) (fun _ h_ => h_.1))) (Kd.R_base ho35) hb); have n1_ := zA (Kd.R_lower (Kd.R_newB (Kd.R_new' ho35 (Kd.R_lt (by (with_reducible repeat (first | apply Kd.R_alloc | apply Kd.R_drewN | apply Kd.R_drew)); exact (Kd.R_mono (Kd.R_far (p := ⟨gb182, 1, none⟩) (Kd.R_mono HO_4.out (fun k_ hk => (⟨hk, hk⟩ : _ ∧ k_ ≠ gb182))) (fun _ hk => hk.2) (.int .i64 t187)) (fun _ h_ => h_.1))))) (g := gb182) (o := .cells #[.int .i64 t184, .int .i64 t187] 110 (0, 0)) (by (with_reducible repeat (first | refine blk_drewN ?_ _ | refine blk_drew ?_ | refine blk_alloc ?_ _)); refine blk_put (cs := #[.int .i64 t184, .int .i64 t181]) ?_ 1 _ rfl; (with_reducible repeat (first | refine blk_drewN ?_ _ | refine blk_drew ?_ | refine blk_alloc ?_ _)); exact BK182.out)) (below_size (zs2 HB GE176 GE182))); have n2_ := zA (blk_below (g := gb176) (o := .cells #[.int .i64 a0_0, .int .i64 a0_1, .slice A0_2 l0_2.length c0_2, .int .i64 a0_3, .int .i64 a0_4] 68 (0, 0)) (by (with_reducible repeat (first | refine blk_drewN ?_ _ | refine blk_drew ?_ | refine blk_alloc ?_ _)); refine blk_far ?_ NB176_182.out _; (with_reducible repeat (first | refine blk_drewN ?_ _ | refine blk_drew ?_ | refine blk_alloc ?_ _)); exact BK176.out) hb); have n3_ := zA (blk_below (g := gb182) (o := .cells #[.int .i64 t184, .int .i64 t187] 110 (0, 0)) (by (with_reducible repeat (first | refine blk_drewN ?_ _ | refine blk_drew ?_ | refine blk_alloc ?_ _)); refine blk_put (cs := #[.int .i64 t184, .int .i64 t181]) ?_ 1 _ rfl; (with_reducible repeat (first | refine blk_drewN ?_ _ | refine blk_drew ?_ | refine blk_alloc ?_ _)); exact BK182.out) hb); have n4_ := zA (below_step (zs2 HB GE176 GE182) hb); clear HO_4; clear BK176; clear BK182; clear HB; have HO_4 := n0_; have HO190 := n1_; have BK176 := n2_; have BK182 := n3_; have HB := n4_; clear n0_ n1_ n2_ n3_ n4_; clear hb ho35))
    go_ret2
    exact ⟨_, by first | rfl | (simp [errW_none, errW_some] <;> rfl) | (simp only [← hji10]; first | rfl | (simp [errW_none, errW_some] <;> rfl)) | (simp [*, errW_none, errW_some] <;> rfl), by (with_reducible repeat (first | apply Kd.R_alloc | apply Kd.R_drewN | apply Kd.R_drew)); exact Kd.R_mono HO190.out (fun _ hk => trivial), zs2 HB GE176 GE182⟩
   rw [if_neg c16] at H
   have c16b0 : decide (t187 < t184) = false := decide_eq_false c16
   clear c16
   by_cases c36 : x4_1.length < 8796093022208
   rotate_left
   ·rw [if_neg c36] at H
    exact absurd H (by simp)
   rw [if_pos c36] at H
   have LMc36 := zA c36
   clear c36
   obtain ⟨y191, hy191⟩ : ∃ y_ : List (S110), y_ = (x4_1 ++ [(⟨t184, t187⟩ : S110)]) := ⟨_, rfl⟩
   replace H : (spec_l24Spans.l0 k1 y191 (l0_2.length : Int) (wrap64 (x6_1 + 1)) a0_0 a0_1 l0_2 a0_3 a0_4) = some (r1, r2) := by first | (rw [hy191]; with_reducible exact H) | (have H2_ := (Option.bind_some _ _).symm.trans H; rw [hy191]; with_reducible exact H2_) | (have H2_ := (Option.bind_some _ _).symm.trans H; with_reducible exact H2_) | with_reducible exact H | (rw [hy191]; exact H) | exact H
   have Ny191 := zA hy191
   clear hy191
   have H' := zA H
   clear H
   try go_wp2
   have n0_ := zA (Kd.R_drew HO_4.out)
   have n1_ := zA (blk_drew BK176.out)
   have n2_ := zA (below_drew1 HB.out)
   clear HO_4 BK176 HB
   revert n0_ n1_ n2_
   intro HO_4 BK176 HB
   refine start_ (n := 9) (S := fun w' => w'.cell? ⟨gb176, 0, none⟩ = some (.int .i64 a0_0) ∧ w'.cell? ⟨gb176, 1, none⟩ = some (.int .i64 a0_1) ∧ w'.cell? ⟨gb176, 2, none⟩ = some (.slice A0_2 l0_2.length c0_2) ∧ w'.cell? ⟨gb176, 3, none⟩ = some (.int .i64 a0_3) ∧ w'.cell? ⟨gb176, 4, none⟩ = some (.int .i64 a0_4)) (ds := []) #[F,F,F,F,F,F,F,F,F] (by kernel_rfl) rfl rfl ⟨(blk_cell BK176.out 0).trans rfl, (blk_cell BK176.out 1).trans rfl, (blk_cell BK176.out 2).trans rfl, (blk_cell BK176.out 3).trans rfl, (blk_cell BK176.out 4).trans rfl⟩ (fun hHeld => ?_); refine with_tabW spec_l24Spans.tab6 spec_l24Spans.bits6 (fun HT_ HW_ => ?_)
   generalize wr.drew = w37 at HO_4 BK176 HB hHeld ⊢
   refine pure_ (i := 1) (N := some 19) (v := ?_) (a' := ?_) #[F,T,F,F,F,F,F,F,F] rfl rfl (any_of HT_.out (by kernel_rfl)) (fun _ _ _ h => h) (Or.inl ⟨by rfl, ?_⟩) ?_ ?_; rotate_left; exact zy; rotate_left; exact zput
   refine pure_ (i := 4) (N := some 22) (v := ?_) (a' := ?_) #[F,T,F,F,T,F,F,F,F] rfl rfl (any_of HT_.out (by kernel_rfl)) (fun _ _ _ h => h) (Or.inl ⟨by rfl, ?_⟩) ?_ ?_; rotate_left; exact zy; rotate_left; exact zput
   refine take_ (i := 0) (N := some 18) (v := ?_) (a' := ?_) #[T,T,F,F,T,F,F,F,F] rfl rfl (take_ofW HT_.out HW_.out (by kernel_rfl)) (fun _ _ _ h => h) (Or.inl ⟨by rfl, ?_⟩) hHeld ?_ ?_; rotate_left; exact zt5; rotate_left; exact zput
   refine take_ (i := 3) (N := some 21) (v := ?_) (a' := ?_) #[T,T,F,T,T,F,F,F,F] rfl rfl (take_ofW HT_.out HW_.out (by kernel_rfl)) (fun _ _ _ h => h) (Or.inl ⟨by rfl, ?_⟩) hHeld ?_ ?_; rotate_left; exact zt5; rotate_left; exact zput
   refine join_ (σ := Nat) 1 #[T,T,T,T,T,T,T,T,F] (fun s_ => [(20, .int .i64 t180), (23, .int .i64 t181), (7, .pointer (some ⟨s_, 0, none⟩)), (24, .agg #[.int .i64 t180, .int .i64 t181])]) (fun s_ w' => (w'.cell? ⟨gb176, 0, none⟩ = some (.int .i64 a0_0) ∧ w'.cell? ⟨gb176, 1, none⟩ = some (.int .i64 a0_1) ∧ w'.cell? ⟨gb176, 2, none⟩ = some (.slice A0_2 l0_2.length c0_2) ∧ w'.cell? ⟨gb176, 3, none⟩ = some (.int .i64 a0_3) ∧ w'.cell? ⟨gb176, 4, none⟩ = some (.int .i64 a0_4)) ∧ (Kd.R k110 110 w' w.heap.size (fun k_ => k_ ≠ s_) u4 x4_1) ∧ (w'.heap[gb176]? = some (.cells #[.int .i64 a0_0, .int .i64 a0_1, .slice A0_2 l0_2.length c0_2, .int .i64 a0_3, .int .i64 a0_4] 68 (0, 0))) ∧ (w'.heap[s_]? = some (.cells #[.int .i64 0, .int .i64 0] 110 (0, 0))) ∧ (w.heap.size ≤ s_) ∧ (w.heap.size ≤ s_) ∧ (gb176 ≠ s_) ∧ (s_ ≠ gb176) ∧ (Below w.heap.size w w')) ?_ ?_
   rotate_left
   ·intro hCont
    refine two_ (i := 2) (j := 7) (Ni := some 20) (Nj := some 7) #[T,T,T,T,T,F,F,F,F] #[T,T,F,T,T,F,F,T,F] rfl rfl rfl rfl (two_of HT_.out (by kernel_rfl)) (by decide) (by decide) (fun K hK => ?_) (fun K hK => ?_)
    ·skip
     refine goes_ Try.func152 (by kernel_rfl) rfl #[.agg #[.int .i64 a0_0, .int .i64 a0_1, .slice A0_2 l0_2.length c0_2, .int .i64 a0_3, .int .i64 a0_4], .int .i64 x6_1] (by rfl) rfl rfl zl ?_
     with_reducible refine (spec_l23Low.calls a0_0 a0_1 _ _ l0_2 a0_3 a0_4 x6_1 t180 _ ?side1 ?side2 A7.out).mono ?_
     (case side1 => exact zC HR0_2 HB)
     (case side2 => exact HC0_2.out)
     rintro e w38 ⟨rfl, hb⟩
     refine ⟨_, rfl, ?_⟩
     have n0_ := zA (Kd.R_below (zr HO_4) hb)
     have n1_ := zb BK176 hb
     have n2_ := zA (below_step (zs1 HB GE176) hb)
     clear HO_4 BK176 HB
     revert n0_ n1_ n2_
     intro HO_4 BK176 HB
     (try clear hb)
     (try clear hb2)
     (try clear hk)
     (try clear hi)
     refine hK.out _ _ ⟨(blk_cell BK176.out 0).trans rfl, (blk_cell BK176.out 1).trans rfl, (blk_cell BK176.out 2).trans rfl, (blk_cell BK176.out 3).trans rfl, (blk_cell BK176.out 4).trans rfl⟩ (fun hHeld => ?_)
     clear hK K
     refine norm_ (a' := ?_) ?_ ?_
     rotate_left
     ·show Act.put _ (some 20) _ = _
      simp only [Act.put, List.setIfInBounds_toArray, List.set_cons_zero, List.set_cons_succ, i64_w, i32_w]
      rfl
     refine two_ (i := 5) (j := 7) (Ni := some 23) (Nj := some 7) #[T,T,T,T,T,T,F,F,F] #[T,T,T,T,T,F,F,T,F] rfl rfl rfl rfl (two_of HT_.out (by kernel_rfl)) (by decide) (by decide) (fun K hK => ?_) (fun K hK => ?_)
     ·skip
      refine goes_ Try.func153 (by kernel_rfl) rfl #[.agg #[.int .i64 a0_0, .int .i64 a0_1, .slice A0_2 l0_2.length c0_2, .int .i64 a0_3, .int .i64 a0_4], .int .i64 x6_1] (by rfl) rfl rfl zl ?_
      with_reducible refine (spec_l23High.calls a0_0 a0_1 _ _ l0_2 a0_3 a0_4 x6_1 t181 _ ?side1 ?side2 A8.out).mono ?_
      (case side1 => exact zC HR0_2 HB)
      (case side2 => exact HC0_2.out)
      rintro e w39 ⟨rfl, hb⟩
      refine ⟨_, rfl, ?_⟩
      have n0_ := zA (Kd.R_below (zr HO_4) hb)
      have n1_ := zb BK176 hb
      have n2_ := zA (below_step (zs1 HB GE176) hb)
      clear HO_4 BK176 HB
      revert n0_ n1_ n2_
      intro HO_4 BK176 HB
      (try clear hb)
      (try clear hb2)
      (try clear hk)
      (try clear hi)
      refine hK.out _ _ ⟨(blk_cell BK176.out 0).trans rfl, (blk_cell BK176.out 1).trans rfl, (blk_cell BK176.out 2).trans rfl, (blk_cell BK176.out 3).trans rfl, (blk_cell BK176.out 4).trans rfl⟩ (fun hHeld => ?_)
      clear hK K
      refine norm_ (a' := ?_) ?_ ?_
      rotate_left
      ·show Act.put _ (some 23) _ = _
       simp only [Act.put, List.setIfInBounds_toArray, List.set_cons_zero, List.set_cons_succ, i64_w, i32_w]
       rfl
      refine pure_ (i := 6) (N := some 24) (v := ?_) (a' := ?_) #[T,T,T,T,T,T,T,F,F] rfl rfl (any_of HT_.out (by kernel_rfl)) (fun _ _ _ h => h) (Or.inl ⟨by rfl, ?_⟩) ?_ ?_; rotate_left; exact zy; rotate_left; exact zput
      refine one_ (i := 7) (N := some 7) #[T,T,T,T,T,T,T,T,F] rfl rfl (one_of HT_.out (by kernel_rfl)) (by decide) (fun K hK => ?_)
      refine box_step (by rfl) (N := 7) (by rfl) (cs := #[.int .i64 0, .int .i64 0]) (t := 110) zg ?_
      intro gb182 hg w40 hbox hb
      have n0_ := zA (Kd.R_below (Kd.R_elderB (zr HO_4) gb182 (Nat.le_of_eq hg.symm)) hb)
      have n1_ := zb BK176 hb
      have n2_ := zA (below_step (zs1 HB GE176) hb)
      have n3_ := zA (hbox)
      have n4_ := zA ((by rw [hg]; exact (below_size (zs1 HB GE176)) : w.heap.size ≤ gb182))
      have n5_ := zA ((by rw [hg]; exact (below_size (zs1 HB GE176)) : w.heap.size ≤ gb182))
      have n6_ := zA ((by rw [hg]; exact Nat.ne_of_lt (blk_lt (g := gb176) (o := .cells #[.int .i64 a0_0, .int .i64 a0_1, .slice A0_2 l0_2.length c0_2, .int .i64 a0_3, .int .i64 a0_4] 68 (0, 0)) (zh BK176)) : gb176 ≠ gb182))
      have n7_ := zA ((by rw [hg]; exact Nat.ne_of_gt (blk_lt (g := gb176) (o := .cells #[.int .i64 a0_0, .int .i64 a0_1, .slice A0_2 l0_2.length c0_2, .int .i64 a0_3, .int .i64 a0_4] 68 (0, 0)) (zh BK176)) : gb182 ≠ gb176))
      clear HO_4
      clear BK176
      clear HB
      have HO_4 := n0_
      have BK176 := n1_
      have HB := n2_
      have BK182 := n3_
      have GW182 := n4_
      have GE182 := n5_
      have NB176_182 := n6_
      have NB182_176 := n7_
      clear n0_ n1_ n2_ n3_ n4_ n5_ n6_ n7_
      clear hb hbox hg
      refine hK.out _ _ ⟨(blk_cell BK176.out 0).trans rfl, (blk_cell BK176.out 1).trans rfl, (blk_cell BK176.out 2).trans rfl, (blk_cell BK176.out 3).trans rfl, (blk_cell BK176.out 4).trans rfl⟩ (fun hHeld => ?_)
      clear hK K
      refine norm_ (a' := ?_) ?_ ?_
      rotate_left
      ·show Act.put _ (some 7) _ = _
       simp only [Act.put, List.setIfInBounds_toArray, List.set_cons_zero, List.set_cons_succ, i64_w, i32_w]
       rfl
      exact norm_ (by simp only [putAll, Act.put, List.setIfInBounds_toArray, List.set_cons_zero, List.set_cons_succ]) (hCont (gb182) _ ⟨hHeld, (by (with_reducible repeat (first | apply Kd.R_alloc | apply Kd.R_drewN | apply Kd.R_drew)); exact Kd.R_mono HO_4.out (fun _ hk => hk.2)), (zh BK176), (zh BK182), GW182.out, GE182.out, NB176_182.out, NB182_176.out, (zs2 HB GE176 GE182)⟩)
     ·skip
      refine box_step (by rfl) (N := 7) (by rfl) (cs := #[.int .i64 0, .int .i64 0]) (t := 110) zg ?_
      intro gb182 hg w39 hbox hb
      have n0_ := zA (Kd.R_below (Kd.R_elderB (zr HO_4) gb182 (Nat.le_of_eq hg.symm)) hb)
      have n1_ := zb BK176 hb
      have n2_ := zA (below_step (zs1 HB GE176) hb)
      have n3_ := zA (hbox)
      have n4_ := zA ((by rw [hg]; exact (below_size (zs1 HB GE176)) : w.heap.size ≤ gb182))
      have n5_ := zA ((by rw [hg]; exact (below_size (zs1 HB GE176)) : w.heap.size ≤ gb182))
      have n6_ := zA ((by rw [hg]; exact Nat.ne_of_lt (blk_lt (g := gb176) (o := .cells #[.int .i64 a0_0, .int .i64 a0_1, .slice A0_2 l0_2.length c0_2, .int .i64 a0_3, .int .i64 a0_4] 68 (0, 0)) (zh BK176)) : gb176 ≠ gb182))
      have n7_ := zA ((by rw [hg]; exact Nat.ne_of_gt (blk_lt (g := gb176) (o := .cells #[.int .i64 a0_0, .int .i64 a0_1, .slice A0_2 l0_2.length c0_2, .int .i64 a0_3, .int .i64 a0_4] 68 (0, 0)) (zh BK176)) : gb182 ≠ gb176))
      clear HO_4
      clear BK176
      clear HB
      have HO_4 := n0_
      have BK176 := n1_
      have HB := n2_
      have BK182 := n3_
      have GW182 := n4_
      have GE182 := n5_
      have NB176_182 := n6_
      have NB182_176 := n7_
      clear n0_ n1_ n2_ n3_ n4_ n5_ n6_ n7_
      clear hb hbox hg
      refine hK.out _ _ ⟨(blk_cell BK176.out 0).trans rfl, (blk_cell BK176.out 1).trans rfl, (blk_cell BK176.out 2).trans rfl, (blk_cell BK176.out 3).trans rfl, (blk_cell BK176.out 4).trans rfl⟩ (fun hHeld => ?_)
      clear hK K
      refine norm_ (a' := ?_) ?_ ?_
      rotate_left
      ·show Act.put _ (some 7) _ = _
       simp only [Act.put, List.setIfInBounds_toArray, List.set_cons_zero, List.set_cons_succ, i64_w, i32_w]
       rfl
      refine one_ (i := 5) (N := some 23) #[T,T,T,T,T,T,F,T,F] rfl rfl (one_of HT_.out (by kernel_rfl)) (by decide) (fun K hK => ?_)
      refine goes_ Try.func153 (by kernel_rfl) rfl #[.agg #[.int .i64 a0_0, .int .i64 a0_1, .slice A0_2 l0_2.length c0_2, .int .i64 a0_3, .int .i64 a0_4], .int .i64 x6_1] (by rfl) rfl rfl zl ?_
      with_reducible refine (spec_l23High.calls a0_0 a0_1 _ _ l0_2 a0_3 a0_4 x6_1 t181 _ ?side1 ?side2 A8.out).mono ?_
      (case side1 => exact zC HR0_2 HB)
      (case side2 => exact HC0_2.out)
      rintro e w40 ⟨rfl, hb⟩
      refine ⟨_, rfl, ?_⟩
      have n0_ := zA (Kd.R_below (zr HO_4) hb)
      have n1_ := zb BK176 hb
      have n2_ := zb BK182 hb
      have n3_ := zA (below_step (zs2 HB GE176 GE182) hb)
      clear HO_4 BK176 BK182 HB
      revert n0_ n1_ n2_ n3_
      intro HO_4 BK176 BK182 HB
      (try clear hb)
      (try clear hb2)
      (try clear hk)
      (try clear hi)
      refine hK.out _ _ ⟨(blk_cell BK176.out 0).trans rfl, (blk_cell BK176.out 1).trans rfl, (blk_cell BK176.out 2).trans rfl, (blk_cell BK176.out 3).trans rfl, (blk_cell BK176.out 4).trans rfl⟩ (fun hHeld => ?_)
      clear hK K
      refine norm_ (a' := ?_) ?_ ?_
      rotate_left
      ·show Act.put _ (some 23) _ = _
       simp only [Act.put, List.setIfInBounds_toArray, List.set_cons_zero, List.set_cons_succ, i64_w, i32_w]
       rfl
      refine pure_ (i := 6) (N := some 24) (v := ?_) (a' := ?_) #[T,T,T,T,T,T,T,T,F] rfl rfl (any_of HT_.out (by kernel_rfl)) (fun _ _ _ h => h) (Or.inl ⟨by rfl, ?_⟩) ?_ ?_; rotate_left; exact zy; rotate_left; exact zput
      exact norm_ (by simp only [putAll, Act.put, List.setIfInBounds_toArray, List.set_cons_zero, List.set_cons_succ]) (hCont (gb182) _ ⟨hHeld, (by (with_reducible repeat (first | apply Kd.R_alloc | apply Kd.R_drewN | apply Kd.R_drew)); exact Kd.R_mono HO_4.out (fun _ hk => hk.2)), (zh BK176), (zh BK182), GW182.out, GE182.out, NB176_182.out, NB182_176.out, (zs2 HB GE176 GE182)⟩)
    ·skip
     refine box_step (by rfl) (N := 7) (by rfl) (cs := #[.int .i64 0, .int .i64 0]) (t := 110) zg ?_
     intro gb182 hg w38 hbox hb
     have n0_ := zA (Kd.R_below (Kd.R_elderB (zr HO_4) gb182 (Nat.le_of_eq hg.symm)) hb)
     have n1_ := zb BK176 hb
     have n2_ := zA (below_step (zs1 HB GE176) hb)
     have n3_ := zA (hbox)
     have n4_ := zA ((by rw [hg]; exact (below_size (zs1 HB GE176)) : w.heap.size ≤ gb182))
     have n5_ := zA ((by rw [hg]; exact (below_size (zs1 HB GE176)) : w.heap.size ≤ gb182))
     have n6_ := zA ((by rw [hg]; exact Nat.ne_of_lt (blk_lt (g := gb176) (o := .cells #[.int .i64 a0_0, .int .i64 a0_1, .slice A0_2 l0_2.length c0_2, .int .i64 a0_3, .int .i64 a0_4] 68 (0, 0)) (zh BK176)) : gb176 ≠ gb182))
     have n7_ := zA ((by rw [hg]; exact Nat.ne_of_gt (blk_lt (g := gb176) (o := .cells #[.int .i64 a0_0, .int .i64 a0_1, .slice A0_2 l0_2.length c0_2, .int .i64 a0_3, .int .i64 a0_4] 68 (0, 0)) (zh BK176)) : gb182 ≠ gb176))
     clear HO_4
     clear BK176
     clear HB
     have HO_4 := n0_
     have BK176 := n1_
     have HB := n2_
     have BK182 := n3_
     have GW182 := n4_
     have GE182 := n5_
     have NB176_182 := n6_
     have NB182_176 := n7_
     clear n0_ n1_ n2_ n3_ n4_ n5_ n6_ n7_
     clear hb hbox hg
     refine hK.out _ _ ⟨(blk_cell BK176.out 0).trans rfl, (blk_cell BK176.out 1).trans rfl, (blk_cell BK176.out 2).trans rfl, (blk_cell BK176.out 3).trans rfl, (blk_cell BK176.out 4).trans rfl⟩ (fun hHeld => ?_)
     clear hK K
     refine norm_ (a' := ?_) ?_ ?_
     rotate_left
     ·show Act.put _ (some 7) _ = _
      simp only [Act.put, List.setIfInBounds_toArray, List.set_cons_zero, List.set_cons_succ, i64_w, i32_w]
      rfl
     refine one_ (i := 2) (N := some 20) #[T,T,T,T,T,F,F,T,F] rfl rfl (one_of HT_.out (by kernel_rfl)) (by decide) (fun K hK => ?_)
     refine goes_ Try.func152 (by kernel_rfl) rfl #[.agg #[.int .i64 a0_0, .int .i64 a0_1, .slice A0_2 l0_2.length c0_2, .int .i64 a0_3, .int .i64 a0_4], .int .i64 x6_1] (by rfl) rfl rfl zl ?_
     with_reducible refine (spec_l23Low.calls a0_0 a0_1 _ _ l0_2 a0_3 a0_4 x6_1 t180 _ ?side1 ?side2 A7.out).mono ?_
     (case side1 => exact zC HR0_2 HB)
     (case side2 => exact HC0_2.out)
     rintro e w39 ⟨rfl, hb⟩
     refine ⟨_, rfl, ?_⟩
     have n0_ := zA (Kd.R_below (zr HO_4) hb)
     have n1_ := zb BK176 hb
     have n2_ := zb BK182 hb
     have n3_ := zA (below_step (zs2 HB GE176 GE182) hb)
     clear HO_4 BK176 BK182 HB
     revert n0_ n1_ n2_ n3_
     intro HO_4 BK176 BK182 HB
     (try clear hb)
     (try clear hb2)
     (try clear hk)
     (try clear hi)
     refine hK.out _ _ ⟨(blk_cell BK176.out 0).trans rfl, (blk_cell BK176.out 1).trans rfl, (blk_cell BK176.out 2).trans rfl, (blk_cell BK176.out 3).trans rfl, (blk_cell BK176.out 4).trans rfl⟩ (fun hHeld => ?_)
     clear hK K
     refine norm_ (a' := ?_) ?_ ?_
     rotate_left
     ·show Act.put _ (some 20) _ = _
      simp only [Act.put, List.setIfInBounds_toArray, List.set_cons_zero, List.set_cons_succ, i64_w, i32_w]
      rfl
     refine one_ (i := 5) (N := some 23) #[T,T,T,T,T,T,F,T,F] rfl rfl (one_of HT_.out (by kernel_rfl)) (by decide) (fun K hK => ?_)
     refine goes_ Try.func153 (by kernel_rfl) rfl #[.agg #[.int .i64 a0_0, .int .i64 a0_1, .slice A0_2 l0_2.length c0_2, .int .i64 a0_3, .int .i64 a0_4], .int .i64 x6_1] (by rfl) rfl rfl zl ?_
     with_reducible refine (spec_l23High.calls a0_0 a0_1 _ _ l0_2 a0_3 a0_4 x6_1 t181 _ ?side1 ?side2 A8.out).mono ?_
     (case side1 => exact zC HR0_2 HB)
     (case side2 => exact HC0_2.out)
     rintro e w40 ⟨rfl, hb⟩
     refine ⟨_, rfl, ?_⟩
     have n0_ := zA (Kd.R_below (zr HO_4) hb)
     have n1_ := zb BK176 hb
     have n2_ := zb BK182 hb
     have n3_ := zA (below_step (zs2 HB GE176 GE182) hb)
     clear HO_4 BK176 BK182 HB
     revert n0_ n1_ n2_ n3_
     intro HO_4 BK176 BK182 HB
     (try clear hb)
     (try clear hb2)
     (try clear hk)
     (try clear hi)
     refine hK.out _ _ ⟨(blk_cell BK176.out 0).trans rfl, (blk_cell BK176.out 1).trans rfl, (blk_cell BK176.out 2).trans rfl, (blk_cell BK176.out 3).trans rfl, (blk_cell BK176.out 4).trans rfl⟩ (fun hHeld => ?_)
     clear hK K
     refine norm_ (a' := ?_) ?_ ?_
     rotate_left
     ·show Act.put _ (some 23) _ = _
      simp only [Act.put, List.setIfInBounds_toArray, List.set_cons_zero, List.set_cons_succ, i64_w, i32_w]
      rfl
     refine pure_ (i := 6) (N := some 24) (v := ?_) (a' := ?_) #[T,T,T,T,T,T,T,T,F] rfl rfl (any_of HT_.out (by kernel_rfl)) (fun _ _ _ h => h) (Or.inl ⟨by rfl, ?_⟩) ?_ ?_; rotate_left; exact zy; rotate_left; exact zput
     exact norm_ (by simp only [putAll, Act.put, List.setIfInBounds_toArray, List.set_cons_zero, List.set_cons_succ]) (hCont (gb182) _ ⟨hHeld, (by (with_reducible repeat (first | apply Kd.R_alloc | apply Kd.R_drewN | apply Kd.R_drew)); exact Kd.R_mono HO_4.out (fun _ hk => hk.2)), (zh BK176), (zh BK182), GW182.out, GE182.out, NB176_182.out, NB182_176.out, (zs2 HB GE176 GE182)⟩)
   rintro gb182 w41 ⟨hS_, h0_, h1_, h2_, h3_, h4_, h5_, h6_, h7_⟩
   have n0_ : Aside0 (Kd.R k110 110 w41 w.heap.size (fun k_ => k_ ≠ gb182) u4 x4_1) := ⟨h0_⟩
   have n1_ : Aside0 (w41.heap[gb176]? = some (.cells #[.int .i64 a0_0, .int .i64 a0_1, .slice A0_2 l0_2.length c0_2, .int .i64 a0_3, .int .i64 a0_4] 68 (0, 0))) := ⟨h1_⟩
   have n2_ : Aside0 (w41.heap[gb182]? = some (.cells #[.int .i64 0, .int .i64 0] 110 (0, 0))) := ⟨h2_⟩
   have n3_ : Aside0 (w.heap.size ≤ gb182) := ⟨h3_⟩
   have n4_ : Aside0 (w.heap.size ≤ gb182) := ⟨h4_⟩
   have n5_ : Aside0 (gb176 ≠ gb182) := ⟨h5_⟩
   have n6_ : Aside0 (gb182 ≠ gb176) := ⟨h6_⟩
   have n7_ : Aside0 (Below w.heap.size w w41) := ⟨h7_⟩
   clear HO_4
   clear BK176
   clear HB
   clear h0_ h1_ h2_ h3_ h4_ h5_ h6_ h7_
   have HO_4 := n0_
   have BK176 := n1_
   have BK182 := n2_
   have GW182 := n3_
   have GE182 := n4_
   have NB176_182 := n5_
   have NB182_176 := n6_
   have HB := n7_
   clear n0_ n1_ n2_ n3_ n4_ n5_ n6_ n7_
   have hHeld : w41.cell? ⟨gb176, 0, none⟩ = some (.int .i64 a0_0) ∧ w41.cell? ⟨gb176, 1, none⟩ = some (.int .i64 a0_1) ∧ w41.cell? ⟨gb176, 2, none⟩ = some (.slice A0_2 l0_2.length c0_2) ∧ w41.cell? ⟨gb176, 3, none⟩ = some (.int .i64 a0_3) ∧ w41.cell? ⟨gb176, 4, none⟩ = some (.int .i64 a0_4) := hS_
   refine norm_ (a' := ?_) ?_ ?_
   rotate_left
   ·simp only [putAll, Act.put, List.setIfInBounds_toArray, List.set_cons_zero, List.set_cons_succ]
    rfl
   refine one_ (i := 8) (N := none) #[T,T,T,T,T,T,T,T,T] rfl rfl (one_of HT_.out (by kernel_rfl)) (by decide) (fun K hK => ?_)
   have hs42 : w41.cell? ⟨gb182, 0, none⟩ = some (.int .i64 0) := (blk_cell BK182.out 0).trans rfl
   have hfs42 := zf BK182 0
   have hns42_0 := NB176_182.out
   have hms42_0 := NB182_176.out
   have hs43 : w41.cell? ⟨gb182, 1, none⟩ = some (.int .i64 0) := (blk_cell BK182.out 1).trans rfl
   have hfs43 := zf BK182 1
   have hns43_0 := NB176_182.out
   have hms43_0 := NB182_176.out
   refine skip_ (w1 := ?_) (by rfl) rfl ?_ ?_
   rotate_left
   ·go_simp
    rfl
   refine hK.out _ _ ⟨((cell_far (p := ⟨gb182, _, none⟩) NB176_182.out _).trans (((cell_far (p := ⟨gb182, _, none⟩) NB176_182.out _).trans (hHeld.1)))), ((cell_far (p := ⟨gb182, _, none⟩) NB176_182.out _).trans (((cell_far (p := ⟨gb182, _, none⟩) NB176_182.out _).trans (hHeld.2.1)))), ((cell_far (p := ⟨gb182, _, none⟩) NB176_182.out _).trans (((cell_far (p := ⟨gb182, _, none⟩) NB176_182.out _).trans (hHeld.2.2.1)))), ((cell_far (p := ⟨gb182, _, none⟩) NB176_182.out _).trans (((cell_far (p := ⟨gb182, _, none⟩) NB176_182.out _).trans (hHeld.2.2.2.1)))), ((cell_far (p := ⟨gb182, _, none⟩) NB176_182.out _).trans (((cell_far (p := ⟨gb182, _, none⟩) NB176_182.out _).trans (hHeld.2.2.2.2))))⟩ (fun hHeld => ?_)
   clear hK K
   refine done_ (done_of HT_.out (by kernel_rfl)) ?_
   try go_wp2
   have n0_ : Aside0 (Kd.R k110 110 ((w41.setCell ⟨gb182, 0, none⟩ (.int .i64 t180)).setCell ⟨gb182, 1, none⟩ (.int .i64 t181)) w.heap.size (fun k_ => k_ ≠ gb182) u4 x4_1) := ⟨by (with_reducible repeat (first | apply Kd.R_alloc | apply Kd.R_drewN | apply Kd.R_drew)); exact Kd.R_mono (Kd.R_far (p := ⟨gb182, 1, none⟩) (Kd.R_far (p := ⟨gb182, 0, none⟩) (Kd.R_mono HO_4.out (fun k_ hk => (⟨hk, hk⟩ : _ ∧ k_ ≠ gb182))) (fun _ hk => hk.2) (.int .i64 t180)) (fun _ hk => hk.2) (.int .i64 t181)) (fun _ hk => hk.1)⟩
   have n1_ : Aside0 (((w41.setCell ⟨gb182, 0, none⟩ (.int .i64 t180)).setCell ⟨gb182, 1, none⟩ (.int .i64 t181)).heap[gb176]? = some (.cells #[.int .i64 a0_0, .int .i64 a0_1, .slice A0_2 l0_2.length c0_2, .int .i64 a0_3, .int .i64 a0_4] 68 (0, 0))) := ⟨by (with_reducible repeat (first | refine blk_drewN ?_ _ | refine blk_drew ?_ | refine blk_alloc ?_ _)); refine blk_far ?_ NB176_182.out _; (with_reducible repeat (first | refine blk_drewN ?_ _ | refine blk_drew ?_ | refine blk_alloc ?_ _)); refine blk_far ?_ NB176_182.out _; (with_reducible repeat (first | refine blk_drewN ?_ _ | refine blk_drew ?_ | refine blk_alloc ?_ _)); exact BK176.out⟩
   have n2_ : Aside0 (((w41.setCell ⟨gb182, 0, none⟩ (.int .i64 t180)).setCell ⟨gb182, 1, none⟩ (.int .i64 t181)).heap[gb182]? = some (.cells #[.int .i64 t180, .int .i64 t181] 110 (0, 0))) := ⟨by (with_reducible repeat (first | refine blk_drewN ?_ _ | refine blk_drew ?_ | refine blk_alloc ?_ _)); refine blk_put (cs := #[.int .i64 t180, .int .i64 0]) ?_ 1 _ rfl; (with_reducible repeat (first | refine blk_drewN ?_ _ | refine blk_drew ?_ | refine blk_alloc ?_ _)); refine blk_put (cs := #[.int .i64 0, .int .i64 0]) ?_ 0 _ rfl; (with_reducible repeat (first | refine blk_drewN ?_ _ | refine blk_drew ?_ | refine blk_alloc ?_ _)); exact BK182.out⟩
   have n3_ : Aside0 (Below w.heap.size w ((w41.setCell ⟨gb182, 0, none⟩ (.int .i64 t180)).setCell ⟨gb182, 1, none⟩ (.int .i64 t181))) := ⟨zs2 HB GE176 GE182⟩
   (try clear HO_4)
   (try clear BK176)
   (try clear BK182)
   (try clear HB)
   generalize ((w41.setCell ⟨gb182, 0, none⟩ (.int .i64 t180)).setCell ⟨gb182, 1, none⟩ (.int .i64 t181)) = w44 at n0_ n1_ n2_ n3_ ⊢
   have HO_4 := n0_
   have BK176 := n1_
   have BK182 := n2_
   have HB := n3_
   clear n0_ n1_ n2_ n3_
   have n0_ := zA (Kd.R_drew HO_4.out)
   have n1_ := zA (blk_drew BK176.out)
   have n2_ := zA (blk_drew BK182.out)
   have n3_ := zA (below_drew1 HB.out)
   clear HO_4 BK176 BK182 HB
   revert n0_ n1_ n2_ n3_
   intro HO_4 BK176 BK182 HB
   obtain ⟨Ao46, co46, eo46⟩ := Kd.R_slice HO_4.out
   (first | subst eo46 | (injection eo46 with f1_ f2_ f3_; have f4_ := f1_.symm; have f5_ := f3_.symm; clear f1_ f2_ f3_; subst f4_; subst f5_))
   have p183 : 0 ≤ ((ji10) : Int) := za
   have q183 : (ji10) < (x4_1.length : Int) := za
   obtain ⟨ad183, e183, hx183_0, hx183_1⟩ := at_T110 (Kd.R_reads' HO_4.out).2.2 (ji10) p183 q183
   cases e183
   replace p183 := eq_true p183
   replace q183 := eq_true q183
   refine start_ (n := 15) (S := fun w' => w'.cell? ⟨gb182, 0, none⟩ = some (.int .i64 t180) ∧ w'.cell? ⟨gb182, 1, none⟩ = some (.int .i64 t181) ∧ w'.cell? ⟨gb176, 0, none⟩ = some (.int .i64 a0_0) ∧ w'.cell? ⟨gb176, 1, none⟩ = some (.int .i64 a0_1) ∧ w'.cell? ⟨gb176, 2, none⟩ = some (.slice A0_2 l0_2.length c0_2) ∧ w'.cell? ⟨gb176, 3, none⟩ = some (.int .i64 a0_3) ∧ w'.cell? ⟨gb176, 4, none⟩ = some (.int .i64 a0_4) ∧ w'.cell? (ad183.add (((ji10)).toNat * 2)) = some (.int .i64 ((rd_T110 x4_1 (ji10)).f0)) ∧ w'.cell? ⟨(ad183.add (((ji10)).toNat * 2)).block, (ad183.add (((ji10)).toNat * 2)).off + 1, none⟩ = some (.int .i64 ((rd_T110 x4_1 (ji10)).f1))) (ds := [14]) #[F,F,F,F,F,F,F,F,F,F,F,F,F,F,F] (by kernel_rfl) rfl rfl ⟨(blk_cell BK182.out 0).trans rfl, (blk_cell BK182.out 1).trans rfl, (blk_cell BK176.out 0).trans rfl, (blk_cell BK176.out 1).trans rfl, (blk_cell BK176.out 2).trans rfl, (blk_cell BK176.out 3).trans rfl, (blk_cell BK176.out 4).trans rfl, hx183_0, hx183_1⟩ (fun hHeld => ?_); refine with_tabW spec_l24Spans.tab8 spec_l24Spans.bits8 (fun HT_ HW_ => ?_)
   generalize w44.drew = w45 at HO_4 BK176 BK182 HB hx183_0 hx183_1 hHeld ⊢
   refine pure_ (i := 0) (N := some 27) (v := ?_) (a' := ?_) #[T,F,F,F,F,F,F,F,F,F,F,F,F,F,F] rfl rfl (any_of HT_.out (by kernel_rfl)) (fun _ _ _ h => h) (Or.inl ⟨by rfl, ?_⟩) ?_ ?_; rotate_left; exact zy; rotate_left; exact zput
   refine pure_ (i := 2) (N := some 29) (v := ?_) (a' := ?_) #[T,F,T,F,F,F,F,F,F,F,F,F,F,F,F] rfl rfl (any_of HT_.out (by kernel_rfl)) (fun _ _ _ h => h) (Or.inl ⟨by rfl, ?_⟩) ?_ ?_; rotate_left; exact zy; rotate_left; exact zput
   refine pure_ (i := 3) (N := some 30) (v := ?_) (a' := ?_) #[T,F,T,T,F,F,F,F,F,F,F,F,F,F,F] rfl rfl (any_of HT_.out (by kernel_rfl)) (fun _ _ _ h => h) (Or.inl ⟨by rfl, ?_⟩) ?_ ?_; rotate_left; exact zy; rotate_left; exact zput
   refine pure_ (i := 4) (N := some 31) (v := ?_) (a' := ?_) #[T,F,T,T,T,F,F,F,F,F,F,F,F,F,F] rfl rfl (any_of HT_.out (by kernel_rfl)) (fun _ _ _ h => h) (Or.inl ⟨by rfl, ?_⟩) ?_ ?_; rotate_left; exact zy; rotate_left; exact zput
   refine pure_ (i := 5) (N := some 32) (v := ?_) (a' := ?_) #[T,F,T,T,T,T,F,F,F,F,F,F,F,F,F] rfl rfl (any_of HT_.out (by kernel_rfl)) (fun _ _ _ h => h) (Or.inl ⟨by rfl, ?_⟩) ?_ ?_; rotate_left; exact zy; rotate_left; exact zput
   refine pure_ (i := 6) (N := some 33) (v := ?_) (a' := ?_) #[T,F,T,T,T,T,T,F,F,F,F,F,F,F,F] rfl rfl (any_of HT_.out (by kernel_rfl)) (fun _ _ _ h => h) (Or.inl ⟨by rfl, ?_⟩) ?_ ?_; rotate_left; exact zy; rotate_left; exact zput
   refine pure_ (i := 8) (N := some 35) (v := ?_) (a' := ?_) #[T,F,T,T,T,T,T,F,T,F,F,F,F,F,F] rfl rfl (any_of HT_.out (by kernel_rfl)) (fun _ _ _ h => h) (Or.inl ⟨by rfl, ?_⟩) ?_ ?_; rotate_left; exact zy; rotate_left; exact zput
   refine pure_ (i := 9) (N := some 36) (v := ?_) (a' := ?_) #[T,F,T,T,T,T,T,F,T,T,F,F,F,F,F] rfl rfl (any_of HT_.out (by kernel_rfl)) (fun _ _ _ h => h) (Or.inl ⟨by rfl, ?_⟩) ?_ ?_; rotate_left; exact zy; rotate_left; exact zput
   refine take_ (i := 1) (N := some 28) (v := ?_) (a' := ?_) #[T,T,T,T,T,T,T,F,T,T,F,F,F,F,F] rfl rfl (take_ofW HT_.out HW_.out (by kernel_rfl)) (fun _ _ _ h => h) (Or.inl ⟨by rfl, ?_⟩) hHeld ?_ ?_; rotate_left; exact zt9; rotate_left; exact zput
   refine take_ (i := 7) (N := some 34) (v := ?_) (a' := ?_) #[T,T,T,T,T,T,T,T,T,T,F,F,F,F,F] rfl rfl (take_ofW HT_.out HW_.out (by kernel_rfl)) (fun _ _ _ h => h) (Or.inl ⟨by rfl, ?_⟩) hHeld ?_ ?_; rotate_left; exact zt9; rotate_left; exact zput
   refine take_ (i := 10) (N := some 37) (v := ?_) (a' := ?_) #[T,T,T,T,T,T,T,T,T,T,T,F,F,F,F] rfl rfl (take_ofW HT_.out HW_.out (by kernel_rfl)) (fun _ _ _ h => h) (Or.inl ⟨by rfl, ?_⟩) hHeld ?_ ?_; rotate_left; exact zt9; rotate_left; exact zput
   refine pure_ (i := 11) (N := some 38) (v := ?_) (a' := ?_) #[T,T,T,T,T,T,T,T,T,T,T,T,F,F,F] rfl rfl (any_of HT_.out (by kernel_rfl)) (fun _ _ _ h => h) (Or.inl ⟨by rfl, ?_⟩) ?_ ?_; rotate_left; exact zy; rotate_left; exact zput
   refine one_ (i := 12) (N := some 39) #[T,T,T,T,T,T,T,T,T,T,T,T,T,F,F] rfl rfl (one_of HT_.out (by kernel_rfl)) (by decide) (fun K hK => ?_)
   refine goes_ Try.func130 (by kernel_rfl) rfl #[.int .i64 t180, .int .i64 (wrap64 (((rd_T110 x4_1 (ji10)).f0) + a0_0))] (by rfl) rfl rfl (by (try simp only [List.map_toArray, List.map_cons, List.map_nil]); first | done | (simp only [hji10]; rfl) | rfl | (simp only [List.length_drop, List.length_take]; rfl)) ?_
   with_reducible refine (spec_l21Max.calls t180 (wrap64 (((rd_T110 x4_1 (ji10)).f0) + a0_0)) t184 _ A13.out).mono ?_
   rintro e w' ⟨rfl, ⟨nd, rfl⟩⟩
   refine ⟨_, rfl, ?_⟩
   refine hK.out _ _ ⟨(blk_cell BK182.out 0).trans rfl, (blk_cell BK182.out 1).trans rfl, (blk_cell BK176.out 0).trans rfl, (blk_cell BK176.out 1).trans rfl, (blk_cell BK176.out 2).trans rfl, (blk_cell BK176.out 3).trans rfl, (blk_cell BK176.out 4).trans rfl, hHeld.2.2.2.2.2.2.2.1, hHeld.2.2.2.2.2.2.2.2⟩ (fun hHeld => ?_)
   clear hK K
   refine norm_ (a' := ?_) ?_ ?_
   rotate_left
   ·show Act.put _ (some 39) _ = _
    simp only [Act.put, List.setIfInBounds_toArray, List.set_cons_zero, List.set_cons_succ, i64_w, i32_w]
    rfl
   refine pure_ (i := 13) (N := some 40) (v := ?_) (a' := ?_) #[T,T,T,T,T,T,T,T,T,T,T,T,T,T,F] rfl rfl (any_of HT_.out (by kernel_rfl)) (fun _ _ _ h => h) (Or.inl ⟨by rfl, ?_⟩) ?_ ?_; rotate_left; exact zy; rotate_left; exact zput
   refine last_ (i := 14) (N := none) #[T,T,T,T,T,T,T,T,T,T,T,T,T,T,T] rfl rfl (one_of HT_.out (by kernel_rfl)) (by decide) (fun K hK => ?_)
   have hs47 : w45.cell? ⟨gb182, 0, none⟩ = some (.int .i64 t180) := (blk_cell BK182.out 0).trans rfl
   have hfs47 := zf BK182 0
   have hns47_0 := NB176_182.out
   have hms47_0 := NB182_176.out
   refine skip_ (w1 := ?_) (by rfl) rfl ?_ ?_
   rotate_left
   ·go_simp
    rfl
   refine hK.out _ _ ?_
   clear hK K
   refine done_ (done_of HT_.out (by kernel_rfl)) ?_
   try go_wp2
   have n0_ : Aside0 (Kd.R k110 110 (w45.setCell ⟨gb182, 0, none⟩ (.int .i64 t184)) w.heap.size (fun k_ => k_ ≠ gb182) (.slice (some ad183) x4_1.length co46) x4_1) := ⟨by (with_reducible repeat (first | apply Kd.R_alloc | apply Kd.R_drewN | apply Kd.R_drew)); exact Kd.R_mono (Kd.R_far (p := ⟨gb182, 0, none⟩) (Kd.R_mono HO_4.out (fun k_ hk => (⟨hk, hk⟩ : _ ∧ k_ ≠ gb182))) (fun _ hk => hk.2) (.int .i64 t184)) (fun _ hk => hk.1)⟩
   have n1_ : Aside0 ((w45.setCell ⟨gb182, 0, none⟩ (.int .i64 t184)).heap[gb176]? = some (.cells #[.int .i64 a0_0, .int .i64 a0_1, .slice A0_2 l0_2.length c0_2, .int .i64 a0_3, .int .i64 a0_4] 68 (0, 0))) := ⟨by (with_reducible repeat (first | refine blk_drewN ?_ _ | refine blk_drew ?_ | refine blk_alloc ?_ _)); refine blk_far ?_ NB176_182.out _; (with_reducible repeat (first | refine blk_drewN ?_ _ | refine blk_drew ?_ | refine blk_alloc ?_ _)); exact BK176.out⟩
   have n2_ : Aside0 ((w45.setCell ⟨gb182, 0, none⟩ (.int .i64 t184)).heap[gb182]? = some (.cells #[.int .i64 t184, .int .i64 t181] 110 (0, 0))) := ⟨by (with_reducible repeat (first | refine blk_drewN ?_ _ | refine blk_drew ?_ | refine blk_alloc ?_ _)); refine blk_put (cs := #[.int .i64 t180, .int .i64 t181]) ?_ 0 _ rfl; (with_reducible repeat (first | refine blk_drewN ?_ _ | refine blk_drew ?_ | refine blk_alloc ?_ _)); exact BK182.out⟩
   have n3_ : Aside0 (Below w.heap.size w (w45.setCell ⟨gb182, 0, none⟩ (.int .i64 t184))) := ⟨zs2 HB GE176 GE182⟩
   (try clear HO_4)
   (try clear BK176)
   (try clear BK182)
   (try clear HB)
   generalize (w45.setCell ⟨gb182, 0, none⟩ (.int .i64 t184)) = w48 at n0_ n1_ n2_ n3_ ⊢
   have HO_4 := n0_
   have BK176 := n1_
   have BK182 := n2_
   have HB := n3_
   clear n0_ n1_ n2_ n3_
   (try (rw [drewN_self w48]; generalize hq_ : World.drewN w48 _ = w48; have n0_ : Aside0 (Kd.R k110 110 w48 w.heap.size (fun k_ => k_ ≠ gb182) (.slice (some ad183) x4_1.length co46) x4_1) := ⟨by rw [← hq_]; exact (zr HO_4)⟩; have n1_ : Aside0 (w48.heap[gb176]? = some (.cells #[.int .i64 a0_0, .int .i64 a0_1, .slice A0_2 l0_2.length c0_2, .int .i64 a0_3, .int .i64 a0_4] 68 (0, 0))) := ⟨by rw [← hq_]; exact (zh BK176)⟩; have n2_ : Aside0 (w48.heap[gb182]? = some (.cells #[.int .i64 t184, .int .i64 t181] 110 (0, 0))) := ⟨by rw [← hq_]; exact (zh BK182)⟩; have n3_ : Aside0 (Below w.heap.size w w48) := ⟨by rw [← hq_]; exact (zs2 HB GE176 GE182)⟩; clear HO_4 BK176 BK182 HB hq_; have HO_4 := n0_; have BK176 := n1_; have BK182 := n2_; have HB := n3_; clear n0_ n1_ n2_ n3_))
   have n0_ := zA (Kd.R_drew HO_4.out)
   have n1_ := zA (blk_drew BK176.out)
   have n2_ := zA (blk_drew BK182.out)
   have n3_ := zA (below_drew1 HB.out)
   clear HO_4 BK176 BK182 HB
   revert n0_ n1_ n2_ n3_
   intro HO_4 BK176 BK182 HB
   have p185 : 0 ≤ ((ji10) : Int) := za
   have q185 : (ji10) < (x4_1.length : Int) := za
   obtain ⟨ad185, e185, hx185_0, hx185_1⟩ := at_T110 (Kd.R_reads' HO_4.out).2.2 (ji10) p185 q185
   obtain rfl : ad183 = ad185 := (by injection e185)
   replace p185 := eq_true p185
   replace q185 := eq_true q185
   refine start_ (n := 16) (S := fun w' => w'.cell? ⟨gb182, 0, none⟩ = some (.int .i64 t184) ∧ w'.cell? ⟨gb182, 1, none⟩ = some (.int .i64 t181) ∧ w'.cell? ⟨gb176, 0, none⟩ = some (.int .i64 a0_0) ∧ w'.cell? ⟨gb176, 1, none⟩ = some (.int .i64 a0_1) ∧ w'.cell? ⟨gb176, 2, none⟩ = some (.slice A0_2 l0_2.length c0_2) ∧ w'.cell? ⟨gb176, 3, none⟩ = some (.int .i64 a0_3) ∧ w'.cell? ⟨gb176, 4, none⟩ = some (.int .i64 a0_4) ∧ w'.cell? (ad183.add (((ji10)).toNat * 2)) = some (.int .i64 ((rd_T110 x4_1 (ji10)).f0)) ∧ w'.cell? ⟨(ad183.add (((ji10)).toNat * 2)).block, (ad183.add (((ji10)).toNat * 2)).off + 1, none⟩ = some (.int .i64 ((rd_T110 x4_1 (ji10)).f1))) (ds := [15]) #[F,F,F,F,F,F,F,F,F,F,F,F,F,F,F,F] (by kernel_rfl) rfl rfl ⟨(blk_cell BK182.out 0).trans rfl, (blk_cell BK182.out 1).trans rfl, (blk_cell BK176.out 0).trans rfl, (blk_cell BK176.out 1).trans rfl, (blk_cell BK176.out 2).trans rfl, (blk_cell BK176.out 3).trans rfl, (blk_cell BK176.out 4).trans rfl, hx185_0, hx185_1⟩ (fun hHeld => ?_); refine with_tabW spec_l24Spans.tab9 spec_l24Spans.bits9 (fun HT_ HW_ => ?_)
   generalize w48.drew = w49 at HO_4 BK176 BK182 HB hx185_0 hx185_1 hHeld ⊢
   refine pure_ (i := 0) (N := some 41) (v := ?_) (a' := ?_) #[T,F,F,F,F,F,F,F,F,F,F,F,F,F,F,F] rfl rfl (any_of HT_.out (by kernel_rfl)) (fun _ _ _ h => h) (Or.inl ⟨by rfl, ?_⟩) ?_ ?_; rotate_left; exact zy; rotate_left; exact zput
   refine pure_ (i := 2) (N := some 43) (v := ?_) (a' := ?_) #[T,F,T,F,F,F,F,F,F,F,F,F,F,F,F,F] rfl rfl (any_of HT_.out (by kernel_rfl)) (fun _ _ _ h => h) (Or.inl ⟨by rfl, ?_⟩) ?_ ?_; rotate_left; exact zy; rotate_left; exact zput
   refine pure_ (i := 3) (N := some 44) (v := ?_) (a' := ?_) #[T,F,T,T,F,F,F,F,F,F,F,F,F,F,F,F] rfl rfl (any_of HT_.out (by kernel_rfl)) (fun _ _ _ h => h) (Or.inl ⟨by rfl, ?_⟩) ?_ ?_; rotate_left; exact zy; rotate_left; exact zput
   refine pure_ (i := 4) (N := some 45) (v := ?_) (a' := ?_) #[T,F,T,T,T,F,F,F,F,F,F,F,F,F,F,F] rfl rfl (any_of HT_.out (by kernel_rfl)) (fun _ _ _ h => h) (Or.inl ⟨by rfl, ?_⟩) ?_ ?_; rotate_left; exact zy; rotate_left; exact zput
   refine pure_ (i := 5) (N := some 46) (v := ?_) (a' := ?_) #[T,F,T,T,T,T,F,F,F,F,F,F,F,F,F,F] rfl rfl (any_of HT_.out (by kernel_rfl)) (fun _ _ _ h => h) (Or.inl ⟨by rfl, ?_⟩) ?_ ?_; rotate_left; exact zy; rotate_left; exact zput
   refine pure_ (i := 6) (N := some 47) (v := ?_) (a' := ?_) #[T,F,T,T,T,T,T,F,F,F,F,F,F,F,F,F] rfl rfl (any_of HT_.out (by kernel_rfl)) (fun _ _ _ h => h) (Or.inl ⟨by rfl, ?_⟩) ?_ ?_; rotate_left; exact zy; rotate_left; exact zput
   refine pure_ (i := 9) (N := some 50) (v := ?_) (a' := ?_) #[T,F,T,T,T,T,T,F,F,T,F,F,F,F,F,F] rfl rfl (any_of HT_.out (by kernel_rfl)) (fun _ _ _ h => h) (Or.inl ⟨by rfl, ?_⟩) ?_ ?_; rotate_left; exact zy; rotate_left; exact zput
   refine pure_ (i := 10) (N := some 51) (v := ?_) (a' := ?_) #[T,F,T,T,T,T,T,F,F,T,T,F,F,F,F,F] rfl rfl (any_of HT_.out (by kernel_rfl)) (fun _ _ _ h => h) (Or.inl ⟨by rfl, ?_⟩) ?_ ?_; rotate_left; exact zy; rotate_left; exact zput
   refine take_ (i := 1) (N := some 42) (v := ?_) (a' := ?_) #[T,T,T,T,T,T,T,F,F,T,T,F,F,F,F,F] rfl rfl (take_ofW HT_.out HW_.out (by kernel_rfl)) (fun _ _ _ h => h) (Or.inl ⟨by rfl, ?_⟩) hHeld ?_ ?_; rotate_left; exact zt9; rotate_left; exact zput
   refine take_ (i := 7) (N := some 48) (v := ?_) (a' := ?_) #[T,T,T,T,T,T,T,T,F,T,T,F,F,F,F,F] rfl rfl (take_ofW HT_.out HW_.out (by kernel_rfl)) (fun _ _ _ h => h) (Or.inl ⟨by rfl, ?_⟩) hHeld ?_ ?_; rotate_left; exact zt9; rotate_left; exact zput
   refine take_ (i := 8) (N := some 49) (v := ?_) (a' := ?_) #[T,T,T,T,T,T,T,T,T,T,T,F,F,F,F,F] rfl rfl (take_ofW HT_.out HW_.out (by kernel_rfl)) (fun _ _ _ h => h) (Or.inl ⟨by rfl, ?_⟩) hHeld ?_ ?_; rotate_left; exact zt9; rotate_left; exact zput
   refine one_ (i := 11) (N := some 52) #[T,T,T,T,T,T,T,T,T,T,T,T,F,F,F,F] rfl rfl (one_of HT_.out (by kernel_rfl)) (by decide) (fun K hK => ?_)
   refine goes_ Try.func154 (by kernel_rfl) rfl #[.agg #[.int .i64 a0_0, .int .i64 a0_1, .slice A0_2 l0_2.length c0_2, .int .i64 a0_3, .int .i64 a0_4], .int .i64 ji10] (by rfl) rfl rfl (by (try simp only [List.map_toArray, List.map_cons, List.map_nil]); first | done | (simp only [hji10]; rfl) | rfl | (simp only [List.length_drop, List.length_take]; rfl)) ?_
   with_reducible refine (spec_l23Most.calls a0_0 a0_1 _ _ l0_2 a0_3 a0_4 ji10 t186 _ ?side1 ?side2 A14.out).mono ?_
   (case side1 => exact zC HR0_2 HB)
   (case side2 => exact HC0_2.out)
   rintro e w50 ⟨rfl, hb⟩
   have HS7_ := (hb.cell (World.block_lt_of_cell? _ _ (hHeld.2.2.2.2.2.2.2.1))).trans (hHeld.2.2.2.2.2.2.2.1)
   have HS8_ := (hb.cell (World.block_lt_of_cell? _ _ (hHeld.2.2.2.2.2.2.2.2))).trans (hHeld.2.2.2.2.2.2.2.2)
   refine ⟨_, rfl, ?_⟩
   have n0_ := zA (Kd.R_below (zr HO_4) hb)
   have n1_ := zb BK176 hb
   have n2_ := zb BK182 hb
   have n3_ := zA (below_step (zs2 HB GE176 GE182) hb)
   clear HO_4 BK176 BK182 HB
   revert n0_ n1_ n2_ n3_
   intro HO_4 BK176 BK182 HB
   (try clear hb)
   (try clear hb2)
   (try clear hk)
   (try clear hi)
   refine hK.out _ _ ⟨(blk_cell BK182.out 0).trans rfl, (blk_cell BK182.out 1).trans rfl, (blk_cell BK176.out 0).trans rfl, (blk_cell BK176.out 1).trans rfl, (blk_cell BK176.out 2).trans rfl, (blk_cell BK176.out 3).trans rfl, (blk_cell BK176.out 4).trans rfl, HS7_, HS8_⟩ (fun hHeld => ?_)
   clear hK K
   refine norm_ (a' := ?_) ?_ ?_
   rotate_left
   ·show Act.put _ (some 52) _ = _
    simp only [Act.put, List.setIfInBounds_toArray, List.set_cons_zero, List.set_cons_succ, i64_w, i32_w]
    rfl
   refine pure_ (i := 12) (N := some 53) (v := ?_) (a' := ?_) #[T,T,T,T,T,T,T,T,T,T,T,T,T,F,F,F] rfl rfl (any_of HT_.out (by kernel_rfl)) (fun _ _ _ h => h) (Or.inl ⟨by rfl, ?_⟩) ?_ ?_; rotate_left; exact zy; rotate_left; exact zput
   refine one_ (i := 13) (N := some 54) #[T,T,T,T,T,T,T,T,T,T,T,T,T,T,F,F] rfl rfl (one_of HT_.out (by kernel_rfl)) (by decide) (fun K hK => ?_)
   refine goes_ Try.func98 (by kernel_rfl) rfl #[.int .i64 t181, .int .i64 (wrap64 (((rd_T110 x4_1 (ji10)).f1) + t186))] (by rfl) rfl rfl (by (try simp only [List.map_toArray, List.map_cons, List.map_nil]); first | done | (simp only [hji10]; rfl) | rfl | (simp only [List.length_drop, List.length_take]; rfl)) ?_
   with_reducible refine (spec_l21Min.calls t181 (wrap64 (((rd_T110 x4_1 (ji10)).f1) + t186)) t187 _ A15.out).mono ?_
   rintro e w' ⟨rfl, ⟨nd, rfl⟩⟩
   refine ⟨_, rfl, ?_⟩
   refine hK.out _ _ ⟨(blk_cell BK182.out 0).trans rfl, (blk_cell BK182.out 1).trans rfl, (blk_cell BK176.out 0).trans rfl, (blk_cell BK176.out 1).trans rfl, (blk_cell BK176.out 2).trans rfl, (blk_cell BK176.out 3).trans rfl, (blk_cell BK176.out 4).trans rfl, hHeld.2.2.2.2.2.2.2.1, hHeld.2.2.2.2.2.2.2.2⟩ (fun hHeld => ?_)
   clear hK K
   refine norm_ (a' := ?_) ?_ ?_
   rotate_left
   ·show Act.put _ (some 54) _ = _
    simp only [Act.put, List.setIfInBounds_toArray, List.set_cons_zero, List.set_cons_succ, i64_w, i32_w]
    rfl
   refine pure_ (i := 14) (N := some 55) (v := ?_) (a' := ?_) #[T,T,T,T,T,T,T,T,T,T,T,T,T,T,T,F] rfl rfl (any_of HT_.out (by kernel_rfl)) (fun _ _ _ h => h) (Or.inl ⟨by rfl, ?_⟩) ?_ ?_; rotate_left; exact zy; rotate_left; exact zput
   refine last_ (i := 15) (N := none) #[T,T,T,T,T,T,T,T,T,T,T,T,T,T,T,T] rfl rfl (one_of HT_.out (by kernel_rfl)) (by decide) (fun K hK => ?_)
   have hs51 : w50.cell? ⟨gb182, 1, none⟩ = some (.int .i64 t181) := (blk_cell BK182.out 1).trans rfl
   have hfs51 := zf BK182 1
   have hns51_0 := NB176_182.out
   have hms51_0 := NB182_176.out
   refine skip_ (w1 := ?_) (by rfl) rfl ?_ ?_
   rotate_left
   ·go_simp
    rfl
   refine hK.out _ _ ?_
   clear hK K
   refine done_ (done_of HT_.out (by kernel_rfl)) ?_
   have hnb52 := NB182_176.out
   have hnc52 := NB176_182.out
   obtain ⟨hcz53_0, hcz53_1⟩ := zd2 BK182
   obtain ⟨hfz53_0, hfz53_1⟩ := zn2 BK182
   try go_wp2_with (first | ((with_reducible refine gate_builtin (b := .append) (xs := #[.tmp 62, .tmp 64]) rfl ?_); at_builtin; refine Kd.R_append k110 (w0 := w) w.heap.size rfl (.tmp 62) (.tmp 64) 105 110 (.agg #[(.int .i64 0), (.int .i64 0)]) 16 rfl Try.underlying105 info110 rfl (by decide) (by omega) (.slice (some ad183) x4_1.length co46) x4_1 (⟨t184, t187⟩ : S110) [.int .i64 t184, .int .i64 t187] (fun k_ => k_ ≠ gb182) (fun _ => False) rfl (by first | (go_simp; done) | (go_simp; rfl)) ?aP (fun _ hk => hk.elim) ?aF ?aO ?aB ?aS ?aL ?_; (case aP => exact k110_mkM _ _ _ (⟨t184, t187⟩ : S110)); (case aB => exact (zs2 HB GE176 GE182)); (case aF => exact (fun k_ hk => Kd.freshB (g := gb182) (o := .cells #[.int .i64 t184, .int .i64 t187] 110 (0, 0)) (by (with_reducible repeat (first | refine blk_drewN ?_ _ | refine blk_drew ?_ | refine blk_alloc ?_ _)); refine blk_put (cs := #[.int .i64 t184, .int .i64 t181]) ?_ 1 _ rfl; (with_reducible repeat (first | refine blk_drewN ?_ _ | refine blk_drew ?_ | refine blk_alloc ?_ _)); exact BK182.out) k_ hk)); (case aO => exact (by (with_reducible repeat (first | apply Kd.R_alloc | apply Kd.R_drewN | apply Kd.R_drew)); exact Kd.R_mono (Kd.R_far (p := ⟨gb182, 1, none⟩) (Kd.R_mono HO_4.out (fun k_ hk => (⟨hk, hk⟩ : _ ∧ k_ ≠ gb182))) (fun _ hk => hk.2) (.int .i64 t187)) (fun _ hk => hk.1))); (case aS => exact (below_size (zs2 HB GE176 GE182))); (case aL => have := LMc36.out; omega); intro v192 w54 ho hb hg hat; rw [← Ny191.out] at ho; have n0_ := zA (blk_grown (g := gb176) (o := .cells #[.int .i64 a0_0, .int .i64 a0_1, .slice A0_2 l0_2.length c0_2, .int .i64 a0_3, .int .i64 a0_4] 68 (0, 0)) (by (with_reducible repeat (first | refine blk_drewN ?_ _ | refine blk_drew ?_ | refine blk_alloc ?_ _)); refine blk_far ?_ NB176_182.out _; (with_reducible repeat (first | refine blk_drewN ?_ _ | refine blk_drew ?_ | refine blk_alloc ?_ _)); exact BK176.out) hg (Kd.R_ne HO_4.out BK176.out (by decide))); have n1_ := zA (blk_grown (g := gb182) (o := .cells #[.int .i64 t184, .int .i64 t187] 110 (0, 0)) (by (with_reducible repeat (first | refine blk_drewN ?_ _ | refine blk_drew ?_ | refine blk_alloc ?_ _)); refine blk_put (cs := #[.int .i64 t184, .int .i64 t181]) ?_ 1 _ rfl; (with_reducible repeat (first | refine blk_drewN ?_ _ | refine blk_drew ?_ | refine blk_alloc ?_ _)); exact BK182.out) hg (Kd.R_away HO_4.out (fun _ hk => hk))); have n2_ := zA (hb); have n3_ := zA (ho); clear BK176; clear BK182; clear HB; clear HO_4; have BK176 := n0_; have BK182 := n1_; have HB := n2_; have HO193 := n3_; clear n0_ n1_ n2_ n3_; clear ho hb hg hat))
   go_roundg k1
   case measure => have := HK1.out; omega
   case rel => exact ⟨(y191), (wrap64 (x6_1 + 1)), zi, H', ⟨by have := HK1.out; omega⟩, ⟨by (with_reducible repeat (first | apply Kd.R_alloc | apply Kd.R_drewN | apply Kd.R_drew)); exact Kd.R_mono HO193.out (fun _ hk => trivial)⟩, ⟨zh BK176⟩, ⟨zs2 HB GE176 GE182⟩⟩
end Go.Proofs.Ytbmplfpnhjhoiaa.QFnExactFlyTube
