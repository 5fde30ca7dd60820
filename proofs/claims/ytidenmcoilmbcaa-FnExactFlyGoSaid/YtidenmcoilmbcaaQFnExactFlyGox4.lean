/- The walk of what the law FnExactFlyGo reaches: laid by a program of this session (ownprint.py). -/
import Derived.Test.YtidenmcoilmbcaaQFnExactFlyGox0
import Derived.Test.YtidenmcoilmbcaaQFnExactFlyGox3
namespace Go.Proofs.Ytidenmcoilmbcaa.QFnExactFlyGo
open Go.RowKit Go.Proofs.YtidenmcoilmbcaaW.PrintWords Go.Proofs.YtidenmcoilmbcaaW.PrintLast Go.Proofs.YtidenmcoilmbcaaW.PrintMore Go.Proofs.Ytidenmcoilmbcaa.Z
attribute [local go_sem] max2_int min2_int max_two min_two max_three min_three max_four min_four zdn   -- for this text's walks alone
set_option linter.unusedVariables false
set_option linter.unusedSimpArgs false
mutual
def spec_l24Spans.l0 : Nat → List (S46) → Int → Int → Int → Int → List (S88) → Int → Int → Option ((List (S46)) × Bool)
 | 0, _, _, _, _, _, _, _, _ => none
 | k + 1, x4, x5, x6, x130000, x130001, x130002, x130003, x130004 => if x6 ≤ x5 then ((spec_l23Low.f x130000 x130001 x130002 x130003 x130004 x6).bind fun t133 => ((spec_l23High.f x130000 x130001 x130002 x130003 x130004 x6).bind fun t134 => (if x6 > 0 then (if 0 ≤ (wrap64 (x6 - 1)) then (if (wrap64 (x6 - 1)) < (x4.length : Int) then ((spec_l21Max.f t133 (wrap64 (((rd_T46 x4 (wrap64 (x6 - 1))).f0) + x130000))).bind fun t137 => ((spec_l23Most.f x130000 x130001 x130002 x130003 x130004 (wrap64 (x6 - 1))).bind fun t139 => ((spec_l21Min.f t134 (wrap64 (((rd_T46 x4 (wrap64 (x6 - 1))).f1) + t139))).bind fun t140 => (if t137 > t140 then (some ((([] : List (S46))), false)) else (if x4.length < 8796093022208 then (spec_l24Spans.l0 k (x4 ++ [(⟨t137, t140⟩ : S46)]) x5 (wrap64 (x6 + 1)) x130000 x130001 x130002 x130003 x130004) else (none)))))) else (none)) else (none)) else (if t133 > t134 then (some ((([] : List (S46))), false)) else (if x4.length < 8796093022208 then (spec_l24Spans.l0 k (x4 ++ [(⟨t133, t134⟩ : S46)]) x5 (wrap64 (x6 + 1)) x130000 x130001 x130002 x130003 x130004) else (none)))))) else (spec_l24Spans.l1 k x4 (wrap64 (x5 - 1)) x130000 x130001 x130002 x130003 x130004)
def spec_l24Spans.l1 : Nat → List (S46) → Int → Int → Int → List (S88) → Int → Int → Option ((List (S46)) × Bool)
 | 0, _, _, _, _, _, _, _ => none
 | k + 1, x4, x8, x130000, x130001, x130002, x130003, x130004 => if x8 ≥ 0 then (if 0 ≤ x8 then (if x8 < (x4.length : Int) then (if 0 ≤ (wrap64 (x8 + 1)) then (if (wrap64 (x8 + 1)) < (x4.length : Int) then ((spec_l23Most.f x130000 x130001 x130002 x130003 x130004 x8).bind fun t155 => ((spec_l21Max.f ((rd_T46 x4 x8).f0) (wrap64 (((rd_T46 x4 (wrap64 (x8 + 1))).f0) - t155))).bind fun t156 => ((some (x4.set (x8 : Int).toNat (⟨t156, (rd_T46 x4 x8).f1⟩ : S46) : List (S46))).bind fun y157 => ((spec_l21Min.f ((rd_T46 y157 x8).f1) (wrap64 (((rd_T46 y157 (wrap64 (x8 + 1))).f1) - x130000))).bind fun t160 => ((some (y157.set (x8 : Int).toNat (⟨(rd_T46 y157 x8).f0, t160⟩ : S46) : List (S46))).bind fun y161 => (if ((rd_T46 y161 x8).f0) > ((rd_T46 y161 x8).f1) then (some ((([] : List (S46))), false)) else (spec_l24Spans.l1 k y161 (wrap64 (x8 - 1)) x130000 x130001 x130002 x130003 x130004))))))) else (none)) else (none)) else (none)) else (none)) else (some (x4, true))
end
def spec_l24Spans.f (k : Nat) (a0_0 : Int) (a0_1 : Int) (l0_2 : List (S88)) (a0_3 : Int) (a0_4 : Int) : Option ((List (S46)) × Bool) := spec_l24Spans.l0 k (([] : List (S46))) (l0_2.length : Int) 0 a0_0 a0_1 l0_2 a0_3 a0_4
def spec_l24Spans.T6 : Bool × List (List Nat × List Nat) := (true, [([], []), ([], []), ([0, 1], [0, 1]), ([], []), ([], []), ([3, 4, 2], [3, 4]), ([2, 5], [2, 5]), ([], []), ([7, 6, 5, 0, 1, 2, 3, 4, 5, 6, 7], [6, 7])])
def spec_l24Spans.B6 : List Nat := [0, 0, 3, 0, 0, 31, 63, 0, 255]
theorem spec_l24Spans.tab6 : rtab .any (opsOf Try.f65 6) = spec_l24Spans.T6 := by kernel_rfl
theorem spec_l24Spans.bits6 : waitsOk spec_l24Spans.T6.2 spec_l24Spans.B6 = true := by kernel_rfl
def spec_l24Spans.T8 : Bool × List (List Nat × List Nat) := (true, [([], []), ([0], [0]), ([], []), ([], []), ([3], [3]), ([2, 4], [2, 4]), ([5], [5]), ([6], [6]), ([], []), ([8], [8]), ([9], [9]), ([7, 10], [7, 10]), ([1, 11], [1, 11]), ([0, 1, 2, 3, 4, 5, 6, 7, 8, 9, 10, 11, 12], []), ([13, 12, 12, 0, 1, 2, 3, 4, 5, 6, 7, 8, 9, 10, 11, 12], [12, 13])])
def spec_l24Spans.B8 : List Nat := [0, 1, 0, 0, 8, 28, 60, 124, 0, 256, 768, 2044, 4095, 8191, 16383]
theorem spec_l24Spans.tab8 : rtab .any (opsOf Try.f65 8) = spec_l24Spans.T8 := by kernel_rfl
theorem spec_l24Spans.bits8 : waitsOk spec_l24Spans.T8.2 spec_l24Spans.B8 = true := by kernel_rfl
def spec_l24Spans.T9 : Bool × List (List Nat × List Nat) := (true, [([], []), ([0], [0]), ([], []), ([], []), ([3], [3]), ([2, 4], [2, 4]), ([5], [5]), ([6], [6]), ([], []), ([], []), ([9], [9]), ([8, 10], [8, 10]), ([7, 11], [7, 11]), ([1, 12, 11], [1, 12]), ([0, 1, 2, 3, 4, 5, 6, 7, 8, 9, 10, 11, 12, 13], []), ([14, 13, 13, 0, 1, 2, 3, 4, 5, 6, 7, 8, 9, 10, 11, 12, 13], [13, 14])])
def spec_l24Spans.B9 : List Nat := [0, 1, 0, 0, 8, 28, 60, 124, 0, 0, 512, 1792, 4092, 8191, 16383, 32767]
theorem spec_l24Spans.tab9 : rtab .any (opsOf Try.f65 9) = spec_l24Spans.T9 := by kernel_rfl
theorem spec_l24Spans.bits9 : waitsOk spec_l24Spans.T9.2 spec_l24Spans.B9 = true := by kernel_rfl
def spec_l24Spans.T16 : Bool × List (List Nat × List Nat) := (true, [([], []), ([], []), ([], []), ([], []), ([2, 3], [2, 3]), ([4], [4]), ([5], [5]), ([], []), ([], []), ([8], [8]), ([7, 9], [7, 9]), ([10], [10]), ([11], [11]), ([], []), ([], []), ([13, 14], [13, 14]), ([12, 15], [12, 15]), ([6, 16, 15], [6, 16]), ([0, 1, 0, 1, 2, 3, 4, 5, 6, 7, 8, 9, 10, 11, 12, 13, 14, 15, 16, 17], [0, 1]), ([18, 0, 1, 2, 3, 4, 5, 6, 7, 8, 9, 10, 11, 12, 13, 14, 15, 16, 17], [18]), ([19, 17, 17, 0, 1, 2, 3, 4, 5, 6, 7, 8, 9, 10, 11, 12, 13, 14, 15, 16, 17], [17, 19])])
def spec_l24Spans.B16 : List Nat := [0, 0, 0, 0, 12, 28, 60, 0, 0, 256, 896, 1920, 3968, 0, 0, 24576, 65408, 131068, 262143, 524287, 1048575]
theorem spec_l24Spans.tab16 : rtab .any (opsOf Try.f65 16) = spec_l24Spans.T16 := by kernel_rfl
theorem spec_l24Spans.bits16 : waitsOk spec_l24Spans.T16.2 spec_l24Spans.B16 = true := by kernel_rfl
def spec_l24Spans.T17 : Bool × List (List Nat × List Nat) := (true, [([], []), ([], []), ([], []), ([], []), ([2, 3], [2, 3]), ([4], [4]), ([5], [5]), ([], []), ([], []), ([8], [8]), ([7, 9], [7, 9]), ([10], [10]), ([11], [11]), ([], []), ([13], [13]), ([14], [14]), ([12, 15], [12, 15]), ([6, 16], [6, 16]), ([0, 1, 0, 1, 2, 3, 4, 5, 6, 7, 8, 9, 10, 11, 12, 13, 14, 15, 16, 17], [0, 1]), ([18, 0, 1, 2, 3, 4, 5, 6, 7, 8, 9, 10, 11, 12, 13, 14, 15, 16, 17], [18]), ([19, 17, 17, 0, 1, 2, 3, 4, 5, 6, 7, 8, 9, 10, 11, 12, 13, 14, 15, 16, 17], [17, 19])])
def spec_l24Spans.B17 : List Nat := [0, 0, 0, 0, 12, 28, 60, 0, 0, 256, 896, 1920, 3968, 0, 8192, 24576, 65408, 131068, 262143, 524287, 1048575]
theorem spec_l24Spans.tab17 : rtab .any (opsOf Try.f65 17) = spec_l24Spans.T17 := by kernel_rfl
theorem spec_l24Spans.bits17 : waitsOk spec_l24Spans.T17.2 spec_l24Spans.B17 = true := by kernel_rfl
def spec_l24Spans.T18 : Bool × List (List Nat × List Nat) := (true, [([], []), ([], []), ([0, 1], [0, 1]), ([2], [2]), ([3], [3]), ([], []), ([], []), ([5, 6], [5, 6]), ([7], [7]), ([8], [8]), ([4, 9], [4, 9])])
def spec_l24Spans.B18 : List Nat := [0, 0, 3, 7, 15, 0, 0, 96, 224, 480, 1023]
theorem spec_l24Spans.tab18 : rtab .any (opsOf Try.f65 18) = spec_l24Spans.T18 := by kernel_rfl
theorem spec_l24Spans.bits18 : waitsOk spec_l24Spans.T18.2 spec_l24Spans.B18 = true := by kernel_rfl
set_option maxHeartbeats 8000000 in
set_option maxRecDepth 100000 in
theorem spec_l24Spans.calls (k : Nat) (a0_0 : Int) (a0_1 : Int) (A0_2 : Option Addr) (c0_2 : Nat) (l0_2 : List (S88)) (a0_3 : Int) (a0_4 : Int) (r1 : List (S46)) (r2 : Bool) (w : World) (hr0_2 : Kd.C k88 w A0_2 l0_2.length l0_2) (hc0_2 : l0_2.length ≤ c0_2) (h : spec_l24Spans.f k a0_0 a0_1 l0_2 a0_3 a0_4 = some (r1, r2)) :
 Calls Try.prog 65 #[.agg #[.int .i64 a0_0, .int .i64 a0_1, .slice A0_2 l0_2.length c0_2, .int .i64 a0_3, .int .i64 a0_4]] w fun e w' => ∃ v0_ : Value, e = .returned (.tuple #[v0_, .bool r2]) ∧ Kd.R k46 46 w' w.heap.size (fun _ => True) v0_ r1 ∧ Below w.heap.size w w' := by
 have hu34 := Try.underlying34
 have hu46 := Try.underlying46
 have HR0_2 := zA hr0_2
 have HC0_2 := zA hc0_2
 clear hr0_2 hc0_2
 have HB := zA (Below.refl w.heap.size w)
 have H : (spec_l24Spans.l0 k (([] : List (S46))) (l0_2.length : Int) 0 a0_0 a0_1 l0_2 a0_3 a0_4) = some (r1, r2) := h
 clear h
 obtain ⟨y130, hy130⟩ : ∃ y_ : List (S46), y_ = (([] : List (S46))) := ⟨_, rfl⟩
 replace H : (spec_l24Spans.l0 k y130 (l0_2.length : Int) 0 a0_0 a0_1 l0_2 a0_3 a0_4) = some (r1, r2) := by first | (rw [hy130]; with_reducible exact H) | (have H2_ := (Option.bind_some _ _).symm.trans H; rw [hy130]; with_reducible exact H2_) | (have H2_ := (Option.bind_some _ _).symm.trans H; with_reducible exact H2_) | with_reducible exact H | (rw [hy130]; exact H) | exact H
 have Ny130 := zA hy130
 clear hy130
 have H' := zA H
 clear H
 go_enter Try.func65, Try.ntmps65
 go_wp2_with (first | ((with_reducible refine gate_dst (N := 1) rfl ?_); refine zbx 1 #[.int .i64 a0_0, .int .i64 a0_1, .slice A0_2 l0_2.length c0_2, .int .i64 a0_3, .int .i64 a0_4] 34 ?_; intro gb129 hg w2 hbox hb; have BK129 := zA hbox; have GW129 := zgs hg (zs0 HB); have GE129 := zgs hg (zs0 HB); replace HB := zE (zs0 HB) hb; clear hb hbox hg) | ((with_reducible refine gate_dst (N := 9) rfl ?_); refine Kd.R_lit k46 _ 46 ?hg (N := 9) ?hd (xs := ([] : List (S46))) (inner := []) (ok := fun _ => True) (okp := fun _ => True) ?hr ?hp (fun _ hk => hk) trivial (Below.refl _ _) (Nat.le_refl _) (by simp) ?_; (case hd => rfl); (case hg => rfl); (case hr => first | (go_simp; done) | (go_simp; rfl)); (case hp => exact (Reps.none _ _)); intro v131 w3 ho4 hb hg_ hnew_; clear hg_ hnew_; (first | rw [← Ny130.out] at ho4 | (simp only [Int.reduceToNat] at ho4; rw [← Ny130.out] at ho4)); have HO132 := zA (Kd.R_lower ho4 (below_size (zs1 HB GE129))); replace BK129 := zb BK129 hb; replace HB := zE (zs1 HB GE129) hb; clear hb ho4; obtain ⟨hcz5_0, hcz5_1, hcz5_2, hcz5_3, hcz5_4⟩ := zd5 BK129; obtain ⟨hfz5_0, hfz5_1, hfz5_2, hfz5_3, hfz5_4⟩ := zn5 BK129))
 go_loopg [4, 6] k (fun kq v4 v6 w' => ∃ (x4_1 : List (S46)) (x6_1 : Int), v6 = .int .i64 x6_1 ∧ Aside0 (spec_l24Spans.l0 kq x4_1 (l0_2.length : Int) x6_1 a0_0 a0_1 l0_2 a0_3 a0_4 = some (r1, r2)) ∧ Aside0 (kq ≤ k) ∧ Aside0 (Kd.R k46 46 w' w.heap.size (fun _ => True) v4 x4_1) ∧ Aside0 (w'.heap[gb129]? = some (.cells #[.int .i64 a0_0, .int .i64 a0_1, (.slice A0_2 l0_2.length c0_2), .int .i64 a0_3, .int .i64 a0_4] 34 (0, 0))) ∧ Aside0 (Below w.heap.size w w'))
 case atStart => exact ⟨(y130), (0), zi, H', ⟨Nat.le_refl _⟩, ⟨zr HO132⟩, ⟨zh BK129⟩, ⟨zs1 HB GE129⟩⟩
 case round =>
  clear H'
  try clear p2
  try clear hcz5_0 hcz5_1 hcz5_2 hcz5_3 hcz5_4 hfz5_0 hfz5_1 hfz5_2 hfz5_3 hfz5_4
  obtain ⟨x4_1, x6_1, rfl, HA, HK1, HO_4, BK129, HB⟩ := hrel
  cases gk with
  | zero => exact absurd HA.out (by simp [spec_l24Spans.l0])
  | succ k1 =>
   have H := HA.out
   clear HA
   simp only [spec_l24Spans.l0] at H
   by_cases c6 : x6_1 ≤ (l0_2.length : Int)
   rotate_left
   ·rw [if_neg c6] at H
    have c6b0 : decide (x6_1 ≤ (l0_2.length : Int)) = false := decide_eq_false c6
    clear c6
    have H' := zA H
    clear H
    go_wp2
    go_loopg [8] k1 (fun kq v8 w' => ∃ (x4_2 : List (S46)) (x8_2 : Int), v8 = .int .i64 x8_2 ∧ Aside0 (spec_l24Spans.l1 kq x4_2 x8_2 a0_0 a0_1 l0_2 a0_3 a0_4 = some (r1, r2)) ∧ Aside0 (kq ≤ k1) ∧ Aside0 (Kd.R k46 46 w' w.heap.size (fun _ => True) u4 x4_2) ∧ Aside0 (w'.heap[gb129]? = some (.cells #[.int .i64 a0_0, .int .i64 a0_1, (.slice A0_2 l0_2.length c0_2), .int .i64 a0_3, .int .i64 a0_4] 34 (0, 0))) ∧ Aside0 (Below w.heap.size w w'))
    case atStart => exact ⟨(x4_1), (wrap64 ((l0_2.length : Int) - 1)), zi, H', ⟨Nat.le_refl _⟩, ⟨zr HO_4⟩, ⟨zh BK129⟩, ⟨zs1 HB GE129⟩⟩
    case round =>
     clear H'
     try clear p2
     try clear c5
     try clear c6
     try clear c6b0
     try clear p6
     try clear c7
     try clear c8
     try clear c55
     try clear c55b0
     try clear c63
     try clear p64
     try clear c67
     try clear c75
     try clear hcz64_0 hcz64_1
     try clear hcz76_0 hcz76_1
     try clear hfz64_0 hfz64_1
     try clear hfz76_0 hfz76_1
     obtain ⟨x4_2, x8_2, rfl, HA, HK2, HO_4, BK129, HB⟩ := hrel
     cases gk with
     | zero => exact absurd HA.out (by simp [spec_l24Spans.l1])
     | succ k2 =>
      have H := HA.out
      clear HA
      simp only [spec_l24Spans.l1] at H
      by_cases c78 : x8_2 ≥ 0
      rotate_left
      ·rw [if_neg c78] at H
       have c78b0 : decide (0 ≤ x8_2) = false := decide_eq_false c78
       clear c78
       simp only [Option.some.injEq, Prod.mk.injEq] at H
       obtain ⟨rfl, rfl⟩ := H
       go_wp2
       go_ret2
       exact ⟨_, ze, zr HO_4, zs1 HB GE129⟩
      rw [if_pos c78] at H
      have c78b0 : decide (0 ≤ x8_2) = true := decide_eq_true c78
      clear c78
      by_cases c79 : 0 ≤ x8_2
      rotate_left
      ·rw [if_neg c79] at H
       exact absurd H (by simp)
      rw [if_pos c79] at H
      have c79b0 : decide (0 ≤ x8_2) = true := decide_eq_true c79
      clear c79
      by_cases c80 : x8_2 < (x4_2.length : Int)
      rotate_left
      ·rw [if_neg c80] at H
       exact absurd H (by simp)
      rw [if_pos c80] at H
      have c80b0 : decide (x8_2 < (x4_2.length : Int)) = true := decide_eq_true c80
      clear c80
      obtain ⟨ji81, hji81⟩ : ∃ j_ : Int, (wrap64 (x8_2 + 1)) = j_ := ⟨_, rfl⟩
      first | rw [hji81] at H | simp only [hji81] at H
      have hji81w : (IntKind.i64.wrap (x8_2 + 1)) = ji81 := (i64_w _).trans hji81
      by_cases c82 : 0 ≤ (ji81)
      rotate_left
      ·rw [if_neg c82] at H
       exact absurd H (by simp)
      rw [if_pos c82] at H
      have c82b0 : decide (0 ≤ (ji81)) = true := decide_eq_true c82
      clear c82
      by_cases c83 : (ji81) < (x4_2.length : Int)
      rotate_left
      ·rw [if_neg c83] at H
       exact absurd H (by simp)
      rw [if_pos c83] at H
      have c83b0 : decide ((ji81) < (x4_2.length : Int)) = true := decide_eq_true c83
      clear c83
      replace H := zbd H; obtain ⟨t155, A84, H⟩ := H
      replace H := Option.bind_eq_some_iff.mp H
      obtain ⟨t156, A850, H⟩ := H
      replace H : ((some (x4_2.set (x8_2 : Int).toNat (⟨t156, (rd_T46 x4_2 x8_2).f1⟩ : S46) : List (S46))).bind fun y157 => ((spec_l21Min.f ((rd_T46 y157 x8_2).f1) (wrap64 (((rd_T46 y157 (ji81)).f1) - a0_0))).bind fun t160 => ((some (y157.set (x8_2 : Int).toNat (⟨(rd_T46 y157 x8_2).f0, t160⟩ : S46) : List (S46))).bind fun y161 => (if ((rd_T46 y161 x8_2).f0) > ((rd_T46 y161 x8_2).f1) then (some ((([] : List (S46))), false)) else (spec_l24Spans.l1 k2 y161 (wrap64 (x8_2 - 1)) a0_0 a0_1 l0_2 a0_3 a0_4))))) = some (r1, r2) := H
      have A85 := zA A850
      clear A850
      obtain ⟨y157, hy157⟩ : ∃ y_ : List (S46), y_ = (x4_2.set (x8_2 : Int).toNat (⟨t156, (rd_T46 x4_2 x8_2).f1⟩ : S46)) := ⟨_, rfl⟩
      replace H : ((spec_l21Min.f ((rd_T46 y157 x8_2).f1) (wrap64 (((rd_T46 y157 (ji81)).f1) - a0_0))).bind fun t160 => ((some (y157.set (x8_2 : Int).toNat (⟨(rd_T46 y157 x8_2).f0, t160⟩ : S46) : List (S46))).bind fun y161 => (if ((rd_T46 y161 x8_2).f0) > ((rd_T46 y161 x8_2).f1) then (some ((([] : List (S46))), false)) else (spec_l24Spans.l1 k2 y161 (wrap64 (x8_2 - 1)) a0_0 a0_1 l0_2 a0_3 a0_4)))) = some (r1, r2) := by first | (rw [hy157]; with_reducible exact H) | (have H2_ := (Option.bind_some _ _).symm.trans H; rw [hy157]; with_reducible exact H2_) | (have H2_ := (Option.bind_some _ _).symm.trans H; with_reducible exact H2_) | with_reducible exact H | (rw [hy157]; exact H) | exact H
      have Ny157 := zA hy157
      clear hy157
      replace H := zbd H; obtain ⟨t160, A87, H⟩ := H
      obtain ⟨y161, hy161⟩ : ∃ y_ : List (S46), y_ = (y157.set (x8_2 : Int).toNat (⟨(rd_T46 y157 x8_2).f0, t160⟩ : S46)) := ⟨_, rfl⟩
      replace H : (if ((rd_T46 y161 x8_2).f0) > ((rd_T46 y161 x8_2).f1) then (some ((([] : List (S46))), false)) else (spec_l24Spans.l1 k2 y161 (wrap64 (x8_2 - 1)) a0_0 a0_1 l0_2 a0_3 a0_4)) = some (r1, r2) := by first | (rw [hy161]; with_reducible exact H) | (have H2_ := (Option.bind_some _ _).symm.trans H; rw [hy161]; with_reducible exact H2_) | (have H2_ := (Option.bind_some _ _).symm.trans H; with_reducible exact H2_) | with_reducible exact H | (rw [hy161]; exact H) | exact H
      have Ny161 := zA hy161
      clear hy161
      by_cases c89 : ((rd_T46 y161 x8_2).f0) > ((rd_T46 y161 x8_2).f1)
      rotate_left
      ·rw [if_neg c89] at H
       have c89b0 : decide (((rd_T46 y161 x8_2).f1) < ((rd_T46 y161 x8_2).f0)) = false := decide_eq_false c89
       clear c89
       have H' := zA H
       clear H
       try go_wp2
       replace HO_4 := zA (Kd.R_drew HO_4.out)
       replace BK129 := zA (blk_drew BK129.out)
       replace HB := zA (below_drew1 HB.out)
       obtain ⟨Ao102, co102, eo102⟩ := Kd.R_slice HO_4.out
       (first | subst eo102 | (injection eo102 with f1_ f2_ f3_; have f4_ := f1_.symm; have f5_ := f3_.symm; clear f1_ f2_ f3_; subst f4_; subst f5_))
       have p153 : 0 ≤ (x8_2 : Int) := za
       have q153 : x8_2 < (x4_2.length : Int) := za
       obtain ⟨ad153, e153, hx153_0, hx153_1⟩ := at_T46 (Kd.R_reads' HO_4.out).2.2 x8_2 p153 q153
       cases e153
       replace p153 := eq_true p153
       replace q153 := eq_true q153
       have p154 : 0 ≤ ((ji81) : Int) := za
       have q154 : (ji81) < (x4_2.length : Int) := za
       obtain ⟨ad154, e154, hx154_0, hx154_1⟩ := at_T46 (Kd.R_reads' HO_4.out).2.2 (ji81) p154 q154
       obtain rfl : ad153 = ad154 := (by injection e154)
       replace p154 := eq_true p154
       replace q154 := eq_true q154
       refine start_ (n := 21) (S := fun w' => w'.cell? ⟨gb129, 0, none⟩ = some (.int .i64 a0_0) ∧ w'.cell? ⟨gb129, 1, none⟩ = some (.int .i64 a0_1) ∧ w'.cell? ⟨gb129, 2, none⟩ = some (.slice A0_2 l0_2.length c0_2) ∧ w'.cell? ⟨gb129, 3, none⟩ = some (.int .i64 a0_3) ∧ w'.cell? ⟨gb129, 4, none⟩ = some (.int .i64 a0_4) ∧ w'.cell? (ad153.add ((x8_2).toNat * 2)) = some (.int .i64 ((rd_T46 x4_2 x8_2).f0)) ∧ w'.cell? ⟨(ad153.add ((x8_2).toNat * 2)).block, (ad153.add ((x8_2).toNat * 2)).off + 1, none⟩ = some (.int .i64 ((rd_T46 x4_2 x8_2).f1)) ∧ w'.cell? (ad153.add (((ji81)).toNat * 2)) = some (.int .i64 ((rd_T46 x4_2 (ji81)).f0)) ∧ w'.cell? ⟨(ad153.add (((ji81)).toNat * 2)).block, (ad153.add (((ji81)).toNat * 2)).off + 1, none⟩ = some (.int .i64 ((rd_T46 x4_2 (ji81)).f1))) (ds := [20]) #[F,F,F,F,F,F,F,F,F,F,F,F,F,F,F,F,F,F,F,F,F] (by kernel_rfl) rfl rfl ⟨zc0 BK129, zc1 BK129, zc2 BK129, zc3 BK129, zc4 BK129, hx153_0, hx153_1, hx154_0, hx154_1⟩ (fun hHeld => ?_); refine with_tabW spec_l24Spans.tab16 spec_l24Spans.bits16 (fun HT_ HW_ => ?_)
       generalize wr.drew = w101 at HO_4 BK129 HB hx153_0 hx153_1 hx154_0 hx154_1 hHeld ⊢
       refine zq HT_ 0 ?_
       refine zq HT_ 1 ?_
       refine zq HT_ 2 ?_
       refine zq HT_ 3 ?_
       refine zq HT_ 4 ?_
       refine zq HT_ 5 ?_
       refine zq HT_ 7 ?_
       refine zq HT_ 8 ?_
       refine zq HT_ 9 ?_
       refine zq HT_ 10 ?_
       refine zq HT_ 11 ?_
       refine zq HT_ 14 ?_
       refine zk9 HT_ HW_ hHeld 6 ?_
       refine zk9 HT_ HW_ hHeld 12 ?_
       refine zk9 HT_ HW_ hHeld 13 ?_
       refine zo HT_ 15 (fun K hK => ?_)
       refine zgo Try.func82 #[.agg #[.int .i64 a0_0, .int .i64 a0_1, .slice A0_2 l0_2.length c0_2, .int .i64 a0_3, .int .i64 a0_4], .int .i64 x8_2] ?_
       with_reducible refine (spec_l23Most.calls a0_0 a0_1 _ _ l0_2 a0_3 a0_4 x8_2 t155 _ ?side1 ?side2 A84.out).mono ?_
       (case side1 => exact zC HR0_2 HB)
       (case side2 => exact HC0_2.out)
       rintro e w103 ⟨rfl, hb⟩
       have HS5_ := (hb.cell (World.block_lt_of_cell? _ _ (hHeld.2.2.2.2.2.1))).trans (hHeld.2.2.2.2.2.1)
       have HS6_ := (hb.cell (World.block_lt_of_cell? _ _ (hHeld.2.2.2.2.2.2.1))).trans (hHeld.2.2.2.2.2.2.1)
       have HS7_ := (hb.cell (World.block_lt_of_cell? _ _ (hHeld.2.2.2.2.2.2.2.1))).trans (hHeld.2.2.2.2.2.2.2.1)
       have HS8_ := (hb.cell (World.block_lt_of_cell? _ _ (hHeld.2.2.2.2.2.2.2.2))).trans (hHeld.2.2.2.2.2.2.2.2)
       refine ⟨_, rfl, ?_⟩
       replace HO_4 := zA (Kd.R_below (zr HO_4) hb)
       replace BK129 := zb BK129 hb
       replace HB := zE (zs1 HB GE129) hb
       (try clear hb)
       (try clear hb2)
       (try clear hk)
       (try clear hi)
       refine hK.out _ _ ⟨zc0 BK129, zc1 BK129, zc2 BK129, zc3 BK129, zc4 BK129, HS5_, HS6_, HS7_, HS8_⟩ (fun hHeld => ?_)
       clear hK K
       refine zN ?_
       refine zq HT_ 16 ?_
       refine zo HT_ 17 (fun K hK => ?_)
       refine goes_ Try.func54 (by kernel_rfl) rfl #[.int .i64 ((rd_T46 x4_2 x8_2).f0), .int .i64 (wrap64 (((rd_T46 x4_2 (ji81)).f0) - t155))] (by rfl) rfl rfl (by (try simp only [List.map_toArray, List.map_cons, List.map_nil]); first | done | (simp only [hji81]; rfl) | rfl | (simp only [List.length_drop, List.length_take]; rfl)) ?_
       with_reducible refine (spec_l21Max.calls ((rd_T46 x4_2 x8_2).f0) (wrap64 (((rd_T46 x4_2 (ji81)).f0) - t155)) t156 _ A85.out).mono ?_
       rintro e w' ⟨rfl, ⟨nd, rfl⟩⟩
       refine ⟨_, rfl, ?_⟩
       have p86 : 0 ≤ (x8_2 : Int) := za
       have q86 : (x8_2 : Int) < ((x4_2.length : Int) : Int) := za
       obtain ⟨go86, co86, eo86, gb86, gl86, cl86, HG86⟩ := Kd.R_form HO_4.out (by omega)
       (first | cases eo86 | (injection eo86 with ea_ en_ ec_; (first | subst ea_ | (injection ea_ with ea_; subst ea_)); subst ec_; clear en_))
       have GB86 := zA gb86
       have GG86 := zA HG86
       clear gb86 gl86 HG86
       (first | simp only [add_plain] at hx153_0 | skip)
       (first | simp only [add_plain] at hx153_1 | skip)
       (first | simp only [add_plain] at hx154_0 | skip)
       (first | simp only [add_plain] at hx154_1 | skip)
       obtain ⟨ce86, hcl86, hM86, hcc86, hfr86⟩ := Kd.R_elem HO_4.out z46 (x8_2 : Int) p86 q86
       obtain rfl := k46_openM hM86
       have hx86_0 : World.cell? _ ⟨go86, (x8_2 : Int).toNat * 2, none⟩ = some (.int .i64 ((rd_T46 x4_2 x8_2).f0)) := hcc86 0 _ rfl
       have hx86_1 : World.cell? _ ⟨go86, (x8_2 : Int).toNat * 2 + 1, none⟩ = some (.int .i64 ((rd_T46 x4_2 x8_2).f1)) := hcc86 1 _ rfl
       have hf86_0 : World.frozen? _ ⟨go86, (x8_2 : Int).toNat * 2, none⟩ = false := hfr86 0
       have hf86_1 : World.frozen? _ ⟨go86, (x8_2 : Int).toNat * 2 + 1, none⟩ = false := hfr86 1
       clear hcl86 hcc86 hfr86 hM86
       replace p86 := eq_true p86
       replace q86 := eq_true q86
       obtain ⟨ce104, hcl104, hM104, hcc104, hfr104⟩ := Kd.R_elem HO_4.out z46 (x8_2 : Int) (za) (by have h_ : (x8_2 : Int) < ((x4_2.length : Int) : Int) := za; first | exact h_ | (have e_ := (Kd.R_reads' HO_4.out).1; omega) | simpa using h_)
       obtain rfl := k46_openM hM104
       have HP104 := (Kd.R_seg HO_4.out (x8_2 : Int) (za) (by have h_ : (x8_2 : Int) < ((x4_2.length : Int) : Int) := za; first | exact h_ | (have e_ := (Kd.R_reads' HO_4.out).1; omega) | simpa using h_) (seg := [.int .i64 t156]) (j := 0) hcl104 hcc104 (show 1 ≤ 2 from by decide) (x' := (⟨t156, (rd_T46 x4_2 x8_2).f1⟩ : S46)) (k46_mkM _ _ _ (⟨t156, (rd_T46 x4_2 x8_2).f1⟩ : S46) ) (fun _ hk => hk)).1
       rw [← Ny157.out] at HP104
       have HQ104 := zA HP104
       clear hcl104 hcc104 hfr104 hM104 HP104
       refine hK.out _ _ ⟨zc0 BK129, zc1 BK129, zc2 BK129, zc3 BK129, zc4 BK129, hHeld.2.2.2.2.2⟩ (fun hHeld => ?_)
       clear hK K
       refine zN ?_
       refine zq HT_ 18 ?_
       refine zq HT_ 19 ?_
       refine zO HT_ 20 (fun K hK => ?_)
       refine skip_ (w1 := ?_) (by rfl) rfl ?_ ?_
       rotate_left
       ·go_simp
        rfl
       refine hK.out _ _ ?_
       clear hK K
       refine done_ (done_of HT_.out (by kernel_rfl)) ?_
       try go_wp2
       obtain ⟨w105, e_⟩ : ∃ x, x = (w103.setCell ⟨go86, (x8_2 : Int).toNat * 2, none⟩ (.int .i64 t156)) := ⟨_, rfl⟩
       have n0_ : Aside0 (Kd.R k46 46 w105 w.heap.size (fun _ => True) (.slice (some ⟨go86, 0, none⟩) x4_2.length co102) y157) := by rw [e_]; exact ⟨zr HQ104⟩
       have n1_ : Aside0 (w105.heap[gb129]? = some (.cells #[.int .i64 a0_0, .int .i64 a0_1, .slice A0_2 l0_2.length c0_2, .int .i64 a0_3, .int .i64 a0_4] 34 (0, 0))) := by rw [e_]; exact ⟨by (with_reducible repeat (first | refine blk_drewN ?_ _ | refine blk_drew ?_ | refine blk_alloc ?_ _)); refine blk_far ?_ (by have h_ := Kd.R_ne HO_4.out BK129.out (by decide); intro e_; exact h_ (by rw [e_]; rfl)) _; (with_reducible repeat (first | refine blk_drewN ?_ _ | refine blk_drew ?_ | refine blk_alloc ?_ _)); exact BK129.out⟩
       have n2_ : Aside0 (Below w.heap.size w w105) := by rw [e_]; exact ⟨by repeat (first | (with_reducible first | exact HB.out | apply below_alloc | apply pw_below_drewN | apply below_drew1 | refine below_set ?_ GB86.out | refine below_set ?_ GE129.out) | exact HB.out)⟩
       (try clear HO_4)
       (try clear BK129)
       (try clear HB)
       rw [← e_]; clear e_
       have HO_4 := n0_
       have BK129 := n1_
       have HB := n2_
       clear n0_ n1_ n2_
       (try (rw [drewN_self w105]; generalize hq_ : World.drewN w105 _ = w105; replace HO_4 : Aside0 (Kd.R k46 46 w105 w.heap.size (fun _ => True) (.slice (some ⟨go86, 0, none⟩) x4_2.length co102) y157) := ⟨by rw [← hq_]; exact (zr HO_4)⟩; replace BK129 : Aside0 (w105.heap[gb129]? = some (.cells #[.int .i64 a0_0, .int .i64 a0_1, .slice A0_2 l0_2.length c0_2, .int .i64 a0_3, .int .i64 a0_4] 34 (0, 0))) := ⟨by rw [← hq_]; exact (zh BK129)⟩; replace HB : Aside0 (Below w.heap.size w w105) := ⟨by rw [← hq_]; exact (zs1 HB GE129)⟩; clear hq_))
       replace HO_4 := zA (Kd.R_drew HO_4.out)
       replace BK129 := zA (blk_drew BK129.out)
       replace HB := zA (below_drew1 HB.out)
       have p158 : 0 ≤ (x8_2 : Int) := za
       have q158 : x8_2 < (y157.length : Int) := (by have h_ : (x8_2 : Int) < ((x4_2.length : Int) : Int) := za; first | (have e_ := (Kd.R_reads' HO_4.out).1; omega) | simpa only [Ny157.out, List.length_set] using h_)
       have ql158 : ((x8_2 : Int) < ((x4_2.length : Int) : Int)) = True := eq_true (za)
       obtain ⟨ad158, e158, hx158_0, hx158_1⟩ := at_T46 (Kd.R_reads' HO_4.out).2.2 x8_2 p158 q158
       obtain rfl : (⟨go86, 0, none⟩ : Addr) = ad158 := (by injection e158)
       (first | simp only [add_plain] at hx158_0 | simp only [add_at] at hx158_0 | simp only [Addr.add, Nat.zero_add] at hx158_0 | skip)
       (first | simp only [add_plain] at hx158_1 | simp only [add_at] at hx158_1 | simp only [Addr.add, Nat.zero_add] at hx158_1 | skip)
       replace p158 := eq_true p158
       replace q158 := eq_true q158
       have p159 : 0 ≤ ((ji81) : Int) := za
       have q159 : (ji81) < (y157.length : Int) := (by have h_ : ((ji81) : Int) < ((x4_2.length : Int) : Int) := za; first | (have e_ := (Kd.R_reads' HO_4.out).1; omega) | simpa only [Ny157.out, List.length_set] using h_)
       have ql159 : (((ji81) : Int) < ((x4_2.length : Int) : Int)) = True := eq_true (za)
       obtain ⟨ad159, e159, hx159_0, hx159_1⟩ := at_T46 (Kd.R_reads' HO_4.out).2.2 (ji81) p159 q159
       obtain rfl : (⟨go86, 0, none⟩ : Addr) = ad159 := (by injection e159)
       (first | simp only [add_plain] at hx159_0 | simp only [add_at] at hx159_0 | simp only [Addr.add, Nat.zero_add] at hx159_0 | skip)
       (first | simp only [add_plain] at hx159_1 | simp only [add_at] at hx159_1 | simp only [Addr.add, Nat.zero_add] at hx159_1 | skip)
       replace p159 := eq_true p159
       replace q159 := eq_true q159
       refine start_ (n := 21) (S := fun w' => w'.cell? ⟨gb129, 0, none⟩ = some (.int .i64 a0_0) ∧ w'.cell? ⟨gb129, 1, none⟩ = some (.int .i64 a0_1) ∧ w'.cell? ⟨gb129, 2, none⟩ = some (.slice A0_2 l0_2.length c0_2) ∧ w'.cell? ⟨gb129, 3, none⟩ = some (.int .i64 a0_3) ∧ w'.cell? ⟨gb129, 4, none⟩ = some (.int .i64 a0_4) ∧ w'.cell? ⟨go86, (x8_2).toNat * 2, none⟩ = some (.int .i64 ((rd_T46 y157 x8_2).f0)) ∧ w'.cell? ⟨go86, (x8_2).toNat * 2 + 1, none⟩ = some (.int .i64 ((rd_T46 y157 x8_2).f1)) ∧ w'.cell? ⟨go86, ((ji81)).toNat * 2, none⟩ = some (.int .i64 ((rd_T46 y157 (ji81)).f0)) ∧ w'.cell? ⟨go86, ((ji81)).toNat * 2 + 1, none⟩ = some (.int .i64 ((rd_T46 y157 (ji81)).f1))) (ds := [20]) #[F,F,F,F,F,F,F,F,F,F,F,F,F,F,F,F,F,F,F,F,F] (by kernel_rfl) rfl rfl ⟨zc0 BK129, zc1 BK129, zc2 BK129, zc3 BK129, zc4 BK129, hx158_0, hx158_1, hx159_0, hx159_1⟩ (fun hHeld => ?_); refine with_tabW spec_l24Spans.tab17 spec_l24Spans.bits17 (fun HT_ HW_ => ?_)
       generalize w105.drew = w106 at HO_4 BK129 HB HQ104 hx158_0 hx158_1 hx159_0 hx159_1 hHeld ⊢
       refine zq HT_ 0 ?_
       refine zq HT_ 1 ?_
       refine zq HT_ 2 ?_
       refine zq HT_ 3 ?_
       refine zq HT_ 4 ?_
       refine zq HT_ 5 ?_
       refine zq HT_ 7 ?_
       refine zq HT_ 8 ?_
       refine zq HT_ 9 ?_
       refine zq HT_ 10 ?_
       refine zq HT_ 11 ?_
       refine zq HT_ 13 ?_
       refine zq HT_ 14 ?_
       refine zk9 HT_ HW_ hHeld 6 ?_
       refine zk9 HT_ HW_ hHeld 12 ?_
       refine zk9 HT_ HW_ hHeld 15 ?_
       refine zq HT_ 16 ?_
       refine zo HT_ 17 (fun K hK => ?_)
       refine goes_ Try.func53 (by kernel_rfl) rfl #[.int .i64 ((rd_T46 y157 x8_2).f1), .int .i64 (wrap64 (((rd_T46 y157 (ji81)).f1) - a0_0))] (by rfl) rfl rfl (by (try simp only [List.map_toArray, List.map_cons, List.map_nil]); first | done | (simp only [hji81]; rfl) | rfl | (simp only [List.length_drop, List.length_take]; rfl)) ?_
       with_reducible refine (spec_l21Min.calls ((rd_T46 y157 x8_2).f1) (wrap64 (((rd_T46 y157 (ji81)).f1) - a0_0)) t160 _ A87.out).mono ?_
       rintro e w' ⟨rfl, ⟨nd, rfl⟩⟩
       refine ⟨_, rfl, ?_⟩
       have p88 : 0 ≤ (x8_2 : Int) := za
       have q88 : (x8_2 : Int) < ((x4_2.length : Int) : Int) := za
       obtain ⟨ce88, hcl88, hM88, hcc88, hfr88⟩ := Kd.R_elem HO_4.out z46 (x8_2 : Int) p88 q88
       obtain rfl := k46_openM hM88
       have hx88_0 : World.cell? _ ⟨go86, (x8_2 : Int).toNat * 2, none⟩ = some (.int .i64 ((rd_T46 y157 x8_2).f0)) := hcc88 0 _ rfl
       have hx88_1 : World.cell? _ ⟨go86, (x8_2 : Int).toNat * 2 + 1, none⟩ = some (.int .i64 ((rd_T46 y157 x8_2).f1)) := hcc88 1 _ rfl
       have hf88_0 : World.frozen? _ ⟨go86, (x8_2 : Int).toNat * 2, none⟩ = false := hfr88 0
       have hf88_1 : World.frozen? _ ⟨go86, (x8_2 : Int).toNat * 2 + 1, none⟩ = false := hfr88 1
       clear hcl88 hcc88 hfr88 hM88
       replace p88 := eq_true p88
       replace q88 := eq_true q88
       obtain ⟨ce107, hcl107, hM107, hcc107, hfr107⟩ := Kd.R_elem HO_4.out z46 (x8_2 : Int) (za) (by have h_ : (x8_2 : Int) < ((x4_2.length : Int) : Int) := za; first | exact h_ | (have e_ := (Kd.R_reads' HO_4.out).1; omega) | simpa using h_)
       obtain rfl := k46_openM hM107
       have HP107 := (Kd.R_seg HO_4.out (x8_2 : Int) (za) (by have h_ : (x8_2 : Int) < ((x4_2.length : Int) : Int) := za; first | exact h_ | (have e_ := (Kd.R_reads' HO_4.out).1; omega) | simpa using h_) (seg := [.int .i64 t160]) (j := 1) hcl107 hcc107 (show 2 ≤ 2 from by decide) (x' := (⟨(rd_T46 y157 x8_2).f0, t160⟩ : S46)) (k46_mkM _ _ _ (⟨(rd_T46 y157 x8_2).f0, t160⟩ : S46) ) (fun _ hk => hk)).1
       rw [← Ny161.out] at HP107
       have HQ107 := zA HP107
       clear hcl107 hcc107 hfr107 hM107 HP107
       refine hK.out _ _ ⟨zc0 BK129, zc1 BK129, zc2 BK129, zc3 BK129, zc4 BK129, hHeld.2.2.2.2.2⟩ (fun hHeld => ?_)
       clear hK K
       refine zN ?_
       refine zq HT_ 18 ?_
       refine zq HT_ 19 ?_
       refine zO HT_ 20 (fun K hK => ?_)
       refine skip_ (w1 := ?_) (by rfl) rfl ?_ ?_
       rotate_left
       ·go_simp
        rfl
       refine hK.out _ _ ?_
       clear hK K
       refine done_ (done_of HT_.out (by kernel_rfl)) ?_
       try go_wp2
       obtain ⟨w108, e_⟩ : ∃ x, x = (w106.setCell ⟨go86, (x8_2 : Int).toNat * 2 + 1, none⟩ (.int .i64 t160)) := ⟨_, rfl⟩
       have n0_ : Aside0 (Kd.R k46 46 w108 w.heap.size (fun _ => True) (.slice (some ⟨go86, 0, none⟩) x4_2.length co102) y161) := by rw [e_]; exact ⟨zr HQ107⟩
       have n1_ : Aside0 (w108.heap[gb129]? = some (.cells #[.int .i64 a0_0, .int .i64 a0_1, .slice A0_2 l0_2.length c0_2, .int .i64 a0_3, .int .i64 a0_4] 34 (0, 0))) := by rw [e_]; exact ⟨by (with_reducible repeat (first | refine blk_drewN ?_ _ | refine blk_drew ?_ | refine blk_alloc ?_ _)); refine blk_far ?_ (by have h_ := Kd.R_ne HO_4.out BK129.out (by decide); intro e_; exact h_ (by rw [e_]; rfl)) _; (with_reducible repeat (first | refine blk_drewN ?_ _ | refine blk_drew ?_ | refine blk_alloc ?_ _)); exact BK129.out⟩
       have n2_ : Aside0 (Below w.heap.size w w108) := by rw [e_]; exact ⟨by repeat (first | (with_reducible first | exact HB.out | apply below_alloc | apply pw_below_drewN | apply below_drew1 | refine below_set ?_ GB86.out | refine below_set ?_ GE129.out) | exact HB.out)⟩
       (try clear HO_4)
       (try clear BK129)
       (try clear HB)
       rw [← e_]; clear e_
       have HO_4 := n0_
       have BK129 := n1_
       have HB := n2_
       clear n0_ n1_ n2_
       (try (rw [drewN_self w108]; generalize hq_ : World.drewN w108 _ = w108; replace HO_4 : Aside0 (Kd.R k46 46 w108 w.heap.size (fun _ => True) (.slice (some ⟨go86, 0, none⟩) x4_2.length co102) y161) := ⟨by rw [← hq_]; exact (zr HO_4)⟩; replace BK129 : Aside0 (w108.heap[gb129]? = some (.cells #[.int .i64 a0_0, .int .i64 a0_1, .slice A0_2 l0_2.length c0_2, .int .i64 a0_3, .int .i64 a0_4] 34 (0, 0))) := ⟨by rw [← hq_]; exact (zh BK129)⟩; replace HB : Aside0 (Below w.heap.size w w108) := ⟨by rw [← hq_]; exact (zs1 HB GE129)⟩; clear hq_))
       replace HO_4 := zA (Kd.R_drew HO_4.out)
       replace BK129 := zA (blk_drew BK129.out)
       replace HB := zA (below_drew1 HB.out)
       have p162 : 0 ≤ (x8_2 : Int) := za
       have q162 : x8_2 < (y161.length : Int) := (by have h_ : (x8_2 : Int) < ((x4_2.length : Int) : Int) := za; first | (have e_ := (Kd.R_reads' HO_4.out).1; omega) | simpa only [Ny157.out, Ny161.out, List.length_set] using h_)
       have ql162 : ((x8_2 : Int) < ((x4_2.length : Int) : Int)) = True := eq_true (za)
       obtain ⟨ad162, e162, hx162_0, hx162_1⟩ := at_T46 (Kd.R_reads' HO_4.out).2.2 x8_2 p162 q162
       obtain rfl : (⟨go86, 0, none⟩ : Addr) = ad162 := (by injection e162)
       (first | simp only [add_plain] at hx162_0 | simp only [add_at] at hx162_0 | simp only [Addr.add, Nat.zero_add] at hx162_0 | skip)
       (first | simp only [add_plain] at hx162_1 | simp only [add_at] at hx162_1 | simp only [Addr.add, Nat.zero_add] at hx162_1 | skip)
       replace p162 := eq_true p162
       replace q162 := eq_true q162
       have p163 : 0 ≤ (x8_2 : Int) := za
       have q163 : x8_2 < (y161.length : Int) := (by have h_ : (x8_2 : Int) < ((x4_2.length : Int) : Int) := za; first | (have e_ := (Kd.R_reads' HO_4.out).1; omega) | simpa only [Ny157.out, Ny161.out, List.length_set] using h_)
       have ql163 : ((x8_2 : Int) < ((x4_2.length : Int) : Int)) = True := eq_true (za)
       obtain ⟨ad163, e163, hx163_0, hx163_1⟩ := at_T46 (Kd.R_reads' HO_4.out).2.2 x8_2 p163 q163
       obtain rfl : (⟨go86, 0, none⟩ : Addr) = ad163 := (by injection e163)
       (first | simp only [add_plain] at hx163_0 | simp only [add_at] at hx163_0 | simp only [Addr.add, Nat.zero_add] at hx163_0 | skip)
       (first | simp only [add_plain] at hx163_1 | simp only [add_at] at hx163_1 | simp only [Addr.add, Nat.zero_add] at hx163_1 | skip)
       replace p163 := eq_true p163
       replace q163 := eq_true q163
       refine start_ (n := 11) (S := fun w' => w'.cell? ⟨go86, (x8_2).toNat * 2, none⟩ = some (.int .i64 ((rd_T46 y161 x8_2).f0)) ∧ w'.cell? ⟨go86, (x8_2).toNat * 2 + 1, none⟩ = some (.int .i64 ((rd_T46 y161 x8_2).f1)) ∧ w'.cell? ⟨go86, (x8_2).toNat * 2, none⟩ = some (.int .i64 ((rd_T46 y161 x8_2).f0)) ∧ w'.cell? ⟨go86, (x8_2).toNat * 2 + 1, none⟩ = some (.int .i64 ((rd_T46 y161 x8_2).f1))) (ds := []) #[F,F,F,F,F,F,F,F,F,F,F] (by kernel_rfl) rfl rfl ⟨hx162_0, hx162_1, hx163_0, hx163_1⟩ (fun hHeld => ?_); refine with_tabW spec_l24Spans.tab18 spec_l24Spans.bits18 (fun HT_ HW_ => ?_)
       generalize w108.drew = w109 at HO_4 BK129 HB HQ107 hx162_0 hx162_1 hx163_0 hx163_1 hHeld ⊢
       refine zq HT_ 0 ?_
       refine zq HT_ 1 ?_
       refine zq HT_ 2 ?_
       refine zq HT_ 3 ?_
       refine zq HT_ 5 ?_
       refine zq HT_ 6 ?_
       refine zq HT_ 7 ?_
       refine zq HT_ 8 ?_
       refine zk4 HT_ HW_ hHeld 4 ?_
       refine zk4 HT_ HW_ hHeld 9 ?_
       refine zq HT_ 10 ?_
       refine done_ (done_of HT_.out (by kernel_rfl)) ?_
       try go_wp2
       go_roundg k2
       case measure => have := HK1.out; have := HK2.out; omega
       case rel => exact ⟨(y161), (wrap64 (x8_2 - 1)), zi, H', ⟨by have := HK1.out; have := HK2.out; omega⟩, ⟨zr HO_4⟩, ⟨zh BK129⟩, ⟨zs1 HB GE129⟩⟩
      rw [if_pos c89] at H
      have c89b0 : decide (((rd_T46 y161 x8_2).f1) < ((rd_T46 y161 x8_2).f0)) = true := decide_eq_true c89
      clear c89
      obtain ⟨y164, hy164⟩ : ∃ y_ : List (S46), y_ = (([] : List (S46))) := ⟨_, rfl⟩
      replace H : (some (y164, false)) = some (r1, r2) := by first | (rw [hy164]; with_reducible exact H) | (have H2_ := (Option.bind_some _ _).symm.trans H; rw [hy164]; with_reducible exact H2_) | (have H2_ := (Option.bind_some _ _).symm.trans H; with_reducible exact H2_) | with_reducible exact H | (rw [hy164]; exact H) | exact H
      have Ny164 := zA hy164
      clear hy164
      simp only [Option.some.injEq, Prod.mk.injEq] at H
      obtain ⟨rfl, rfl⟩ := H
      try go_wp2
      replace HO_4 := zA (Kd.R_drew HO_4.out)
      replace BK129 := zA (blk_drew BK129.out)
      replace HB := zA (below_drew1 HB.out)
      obtain ⟨Ao91, co91, eo91⟩ := Kd.R_slice HO_4.out
      (first | subst eo91 | (injection eo91 with f1_ f2_ f3_; have f4_ := f1_.symm; have f5_ := f3_.symm; clear f1_ f2_ f3_; subst f4_; subst f5_))
      have p153 : 0 ≤ (x8_2 : Int) := za
      have q153 : x8_2 < (x4_2.length : Int) := za
      obtain ⟨ad153, e153, hx153_0, hx153_1⟩ := at_T46 (Kd.R_reads' HO_4.out).2.2 x8_2 p153 q153
      cases e153
      replace p153 := eq_true p153
      replace q153 := eq_true q153
      have p154 : 0 ≤ ((ji81) : Int) := za
      have q154 : (ji81) < (x4_2.length : Int) := za
      obtain ⟨ad154, e154, hx154_0, hx154_1⟩ := at_T46 (Kd.R_reads' HO_4.out).2.2 (ji81) p154 q154
      obtain rfl : ad153 = ad154 := (by injection e154)
      replace p154 := eq_true p154
      replace q154 := eq_true q154
      refine start_ (n := 21) (S := fun w' => w'.cell? ⟨gb129, 0, none⟩ = some (.int .i64 a0_0) ∧ w'.cell? ⟨gb129, 1, none⟩ = some (.int .i64 a0_1) ∧ w'.cell? ⟨gb129, 2, none⟩ = some (.slice A0_2 l0_2.length c0_2) ∧ w'.cell? ⟨gb129, 3, none⟩ = some (.int .i64 a0_3) ∧ w'.cell? ⟨gb129, 4, none⟩ = some (.int .i64 a0_4) ∧ w'.cell? (ad153.add ((x8_2).toNat * 2)) = some (.int .i64 ((rd_T46 x4_2 x8_2).f0)) ∧ w'.cell? ⟨(ad153.add ((x8_2).toNat * 2)).block, (ad153.add ((x8_2).toNat * 2)).off + 1, none⟩ = some (.int .i64 ((rd_T46 x4_2 x8_2).f1)) ∧ w'.cell? (ad153.add (((ji81)).toNat * 2)) = some (.int .i64 ((rd_T46 x4_2 (ji81)).f0)) ∧ w'.cell? ⟨(ad153.add (((ji81)).toNat * 2)).block, (ad153.add (((ji81)).toNat * 2)).off + 1, none⟩ = some (.int .i64 ((rd_T46 x4_2 (ji81)).f1))) (ds := [20]) #[F,F,F,F,F,F,F,F,F,F,F,F,F,F,F,F,F,F,F,F,F] (by kernel_rfl) rfl rfl ⟨zc0 BK129, zc1 BK129, zc2 BK129, zc3 BK129, zc4 BK129, hx153_0, hx153_1, hx154_0, hx154_1⟩ (fun hHeld => ?_); refine with_tabW spec_l24Spans.tab16 spec_l24Spans.bits16 (fun HT_ HW_ => ?_)
      generalize wr.drew = w90 at HO_4 BK129 HB hx153_0 hx153_1 hx154_0 hx154_1 hHeld ⊢
      refine zq HT_ 0 ?_
      refine zq HT_ 1 ?_
      refine zq HT_ 2 ?_
      refine zq HT_ 3 ?_
      refine zq HT_ 4 ?_
      refine zq HT_ 5 ?_
      refine zq HT_ 7 ?_
      refine zq HT_ 8 ?_
      refine zq HT_ 9 ?_
      refine zq HT_ 10 ?_
      refine zq HT_ 11 ?_
      refine zq HT_ 14 ?_
      refine zk9 HT_ HW_ hHeld 6 ?_
      refine zk9 HT_ HW_ hHeld 12 ?_
      refine zk9 HT_ HW_ hHeld 13 ?_
      refine zo HT_ 15 (fun K hK => ?_)
      refine zgo Try.func82 #[.agg #[.int .i64 a0_0, .int .i64 a0_1, .slice A0_2 l0_2.length c0_2, .int .i64 a0_3, .int .i64 a0_4], .int .i64 x8_2] ?_
      with_reducible refine (spec_l23Most.calls a0_0 a0_1 _ _ l0_2 a0_3 a0_4 x8_2 t155 _ ?side1 ?side2 A84.out).mono ?_
      (case side1 => exact zC HR0_2 HB)
      (case side2 => exact HC0_2.out)
      rintro e w92 ⟨rfl, hb⟩
      have HS5_ := (hb.cell (World.block_lt_of_cell? _ _ (hHeld.2.2.2.2.2.1))).trans (hHeld.2.2.2.2.2.1)
      have HS6_ := (hb.cell (World.block_lt_of_cell? _ _ (hHeld.2.2.2.2.2.2.1))).trans (hHeld.2.2.2.2.2.2.1)
      have HS7_ := (hb.cell (World.block_lt_of_cell? _ _ (hHeld.2.2.2.2.2.2.2.1))).trans (hHeld.2.2.2.2.2.2.2.1)
      have HS8_ := (hb.cell (World.block_lt_of_cell? _ _ (hHeld.2.2.2.2.2.2.2.2))).trans (hHeld.2.2.2.2.2.2.2.2)
      refine ⟨_, rfl, ?_⟩
      replace HO_4 := zA (Kd.R_below (zr HO_4) hb)
      replace BK129 := zb BK129 hb
      replace HB := zE (zs1 HB GE129) hb
      (try clear hb)
      (try clear hb2)
      (try clear hk)
      (try clear hi)
      refine hK.out _ _ ⟨zc0 BK129, zc1 BK129, zc2 BK129, zc3 BK129, zc4 BK129, HS5_, HS6_, HS7_, HS8_⟩ (fun hHeld => ?_)
      clear hK K
      refine zN ?_
      refine zq HT_ 16 ?_
      refine zo HT_ 17 (fun K hK => ?_)
      refine goes_ Try.func54 (by kernel_rfl) rfl #[.int .i64 ((rd_T46 x4_2 x8_2).f0), .int .i64 (wrap64 (((rd_T46 x4_2 (ji81)).f0) - t155))] (by rfl) rfl rfl (by (try simp only [List.map_toArray, List.map_cons, List.map_nil]); first | done | (simp only [hji81]; rfl) | rfl | (simp only [List.length_drop, List.length_take]; rfl)) ?_
      with_reducible refine (spec_l21Max.calls ((rd_T46 x4_2 x8_2).f0) (wrap64 (((rd_T46 x4_2 (ji81)).f0) - t155)) t156 _ A85.out).mono ?_
      rintro e w' ⟨rfl, ⟨nd, rfl⟩⟩
      refine ⟨_, rfl, ?_⟩
      have p86 : 0 ≤ (x8_2 : Int) := za
      have q86 : (x8_2 : Int) < ((x4_2.length : Int) : Int) := za
      obtain ⟨go86, co86, eo86, gb86, gl86, cl86, HG86⟩ := Kd.R_form HO_4.out (by omega)
      (first | cases eo86 | (injection eo86 with ea_ en_ ec_; (first | subst ea_ | (injection ea_ with ea_; subst ea_)); subst ec_; clear en_))
      have GB86 := zA gb86
      have GG86 := zA HG86
      clear gb86 gl86 HG86
      (first | simp only [add_plain] at hx153_0 | skip)
      (first | simp only [add_plain] at hx153_1 | skip)
      (first | simp only [add_plain] at hx154_0 | skip)
      (first | simp only [add_plain] at hx154_1 | skip)
      obtain ⟨ce86, hcl86, hM86, hcc86, hfr86⟩ := Kd.R_elem HO_4.out z46 (x8_2 : Int) p86 q86
      obtain rfl := k46_openM hM86
      have hx86_0 : World.cell? _ ⟨go86, (x8_2 : Int).toNat * 2, none⟩ = some (.int .i64 ((rd_T46 x4_2 x8_2).f0)) := hcc86 0 _ rfl
      have hx86_1 : World.cell? _ ⟨go86, (x8_2 : Int).toNat * 2 + 1, none⟩ = some (.int .i64 ((rd_T46 x4_2 x8_2).f1)) := hcc86 1 _ rfl
      have hf86_0 : World.frozen? _ ⟨go86, (x8_2 : Int).toNat * 2, none⟩ = false := hfr86 0
      have hf86_1 : World.frozen? _ ⟨go86, (x8_2 : Int).toNat * 2 + 1, none⟩ = false := hfr86 1
      clear hcl86 hcc86 hfr86 hM86
      replace p86 := eq_true p86
      replace q86 := eq_true q86
      obtain ⟨ce93, hcl93, hM93, hcc93, hfr93⟩ := Kd.R_elem HO_4.out z46 (x8_2 : Int) (za) (by have h_ : (x8_2 : Int) < ((x4_2.length : Int) : Int) := za; first | exact h_ | (have e_ := (Kd.R_reads' HO_4.out).1; omega) | simpa using h_)
      obtain rfl := k46_openM hM93
      have HP93 := (Kd.R_seg HO_4.out (x8_2 : Int) (za) (by have h_ : (x8_2 : Int) < ((x4_2.length : Int) : Int) := za; first | exact h_ | (have e_ := (Kd.R_reads' HO_4.out).1; omega) | simpa using h_) (seg := [.int .i64 t156]) (j := 0) hcl93 hcc93 (show 1 ≤ 2 from by decide) (x' := (⟨t156, (rd_T46 x4_2 x8_2).f1⟩ : S46)) (k46_mkM _ _ _ (⟨t156, (rd_T46 x4_2 x8_2).f1⟩ : S46) ) (fun _ hk => hk)).1
      rw [← Ny157.out] at HP93
      have HQ93 := zA HP93
      clear hcl93 hcc93 hfr93 hM93 HP93
      refine hK.out _ _ ⟨zc0 BK129, zc1 BK129, zc2 BK129, zc3 BK129, zc4 BK129, hHeld.2.2.2.2.2⟩ (fun hHeld => ?_)
      clear hK K
      refine zN ?_
      refine zq HT_ 18 ?_
      refine zq HT_ 19 ?_
      refine zO HT_ 20 (fun K hK => ?_)
      refine skip_ (w1 := ?_) (by rfl) rfl ?_ ?_
      rotate_left
      ·go_simp
       rfl
      refine hK.out _ _ ?_
      clear hK K
      refine done_ (done_of HT_.out (by kernel_rfl)) ?_
      try go_wp2
      obtain ⟨w94, e_⟩ : ∃ x, x = (w92.setCell ⟨go86, (x8_2 : Int).toNat * 2, none⟩ (.int .i64 t156)) := ⟨_, rfl⟩
      have n0_ : Aside0 (Kd.R k46 46 w94 w.heap.size (fun _ => True) (.slice (some ⟨go86, 0, none⟩) x4_2.length co91) y157) := by rw [e_]; exact ⟨zr HQ93⟩
      have n1_ : Aside0 (w94.heap[gb129]? = some (.cells #[.int .i64 a0_0, .int .i64 a0_1, .slice A0_2 l0_2.length c0_2, .int .i64 a0_3, .int .i64 a0_4] 34 (0, 0))) := by rw [e_]; exact ⟨by (with_reducible repeat (first | refine blk_drewN ?_ _ | refine blk_drew ?_ | refine blk_alloc ?_ _)); refine blk_far ?_ (by have h_ := Kd.R_ne HO_4.out BK129.out (by decide); intro e_; exact h_ (by rw [e_]; rfl)) _; (with_reducible repeat (first | refine blk_drewN ?_ _ | refine blk_drew ?_ | refine blk_alloc ?_ _)); exact BK129.out⟩
      have n2_ : Aside0 (Below w.heap.size w w94) := by rw [e_]; exact ⟨by repeat (first | (with_reducible first | exact HB.out | apply below_alloc | apply pw_below_drewN | apply below_drew1 | refine below_set ?_ GB86.out | refine below_set ?_ GE129.out) | exact HB.out)⟩
      (try clear HO_4)
      (try clear BK129)
      (try clear HB)
      rw [← e_]; clear e_
      have HO_4 := n0_
      have BK129 := n1_
      have HB := n2_
      clear n0_ n1_ n2_
      (try (rw [drewN_self w94]; generalize hq_ : World.drewN w94 _ = w94; replace HO_4 : Aside0 (Kd.R k46 46 w94 w.heap.size (fun _ => True) (.slice (some ⟨go86, 0, none⟩) x4_2.length co91) y157) := ⟨by rw [← hq_]; exact (zr HO_4)⟩; replace BK129 : Aside0 (w94.heap[gb129]? = some (.cells #[.int .i64 a0_0, .int .i64 a0_1, .slice A0_2 l0_2.length c0_2, .int .i64 a0_3, .int .i64 a0_4] 34 (0, 0))) := ⟨by rw [← hq_]; exact (zh BK129)⟩; replace HB : Aside0 (Below w.heap.size w w94) := ⟨by rw [← hq_]; exact (zs1 HB GE129)⟩; clear hq_))
      replace HO_4 := zA (Kd.R_drew HO_4.out)
      replace BK129 := zA (blk_drew BK129.out)
      replace HB := zA (below_drew1 HB.out)
      have p158 : 0 ≤ (x8_2 : Int) := za
      have q158 : x8_2 < (y157.length : Int) := (by have h_ : (x8_2 : Int) < ((x4_2.length : Int) : Int) := za; first | (have e_ := (Kd.R_reads' HO_4.out).1; omega) | simpa only [Ny157.out, List.length_set] using h_)
      have ql158 : ((x8_2 : Int) < ((x4_2.length : Int) : Int)) = True := eq_true (za)
      obtain ⟨ad158, e158, hx158_0, hx158_1⟩ := at_T46 (Kd.R_reads' HO_4.out).2.2 x8_2 p158 q158
      obtain rfl : (⟨go86, 0, none⟩ : Addr) = ad158 := (by injection e158)
      (first | simp only [add_plain] at hx158_0 | simp only [add_at] at hx158_0 | simp only [Addr.add, Nat.zero_add] at hx158_0 | skip)
      (first | simp only [add_plain] at hx158_1 | simp only [add_at] at hx158_1 | simp only [Addr.add, Nat.zero_add] at hx158_1 | skip)
      replace p158 := eq_true p158
      replace q158 := eq_true q158
      have p159 : 0 ≤ ((ji81) : Int) := za
      have q159 : (ji81) < (y157.length : Int) := (by have h_ : ((ji81) : Int) < ((x4_2.length : Int) : Int) := za; first | (have e_ := (Kd.R_reads' HO_4.out).1; omega) | simpa only [Ny157.out, List.length_set] using h_)
      have ql159 : (((ji81) : Int) < ((x4_2.length : Int) : Int)) = True := eq_true (za)
      obtain ⟨ad159, e159, hx159_0, hx159_1⟩ := at_T46 (Kd.R_reads' HO_4.out).2.2 (ji81) p159 q159
      obtain rfl : (⟨go86, 0, none⟩ : Addr) = ad159 := (by injection e159)
      (first | simp only [add_plain] at hx159_0 | simp only [add_at] at hx159_0 | simp only [Addr.add, Nat.zero_add] at hx159_0 | skip)
      (first | simp only [add_plain] at hx159_1 | simp only [add_at] at hx159_1 | simp only [Addr.add, Nat.zero_add] at hx159_1 | skip)
      replace p159 := eq_true p159
      replace q159 := eq_true q159
      refine start_ (n := 21) (S := fun w' => w'.cell? ⟨gb129, 0, none⟩ = some (.int .i64 a0_0) ∧ w'.cell? ⟨gb129, 1, none⟩ = some (.int .i64 a0_1) ∧ w'.cell? ⟨gb129, 2, none⟩ = some (.slice A0_2 l0_2.length c0_2) ∧ w'.cell? ⟨gb129, 3, none⟩ = some (.int .i64 a0_3) ∧ w'.cell? ⟨gb129, 4, none⟩ = some (.int .i64 a0_4) ∧ w'.cell? ⟨go86, (x8_2).toNat * 2, none⟩ = some (.int .i64 ((rd_T46 y157 x8_2).f0)) ∧ w'.cell? ⟨go86, (x8_2).toNat * 2 + 1, none⟩ = some (.int .i64 ((rd_T46 y157 x8_2).f1)) ∧ w'.cell? ⟨go86, ((ji81)).toNat * 2, none⟩ = some (.int .i64 ((rd_T46 y157 (ji81)).f0)) ∧ w'.cell? ⟨go86, ((ji81)).toNat * 2 + 1, none⟩ = some (.int .i64 ((rd_T46 y157 (ji81)).f1))) (ds := [20]) #[F,F,F,F,F,F,F,F,F,F,F,F,F,F,F,F,F,F,F,F,F] (by kernel_rfl) rfl rfl ⟨zc0 BK129, zc1 BK129, zc2 BK129, zc3 BK129, zc4 BK129, hx158_0, hx158_1, hx159_0, hx159_1⟩ (fun hHeld => ?_); refine with_tabW spec_l24Spans.tab17 spec_l24Spans.bits17 (fun HT_ HW_ => ?_)
      generalize w94.drew = w95 at HO_4 BK129 HB HQ93 hx158_0 hx158_1 hx159_0 hx159_1 hHeld ⊢
      refine zq HT_ 0 ?_
      refine zq HT_ 1 ?_
      refine zq HT_ 2 ?_
      refine zq HT_ 3 ?_
      refine zq HT_ 4 ?_
      refine zq HT_ 5 ?_
      refine zq HT_ 7 ?_
      refine zq HT_ 8 ?_
      refine zq HT_ 9 ?_
      refine zq HT_ 10 ?_
      refine zq HT_ 11 ?_
      refine zq HT_ 13 ?_
      refine zq HT_ 14 ?_
      refine zk9 HT_ HW_ hHeld 6 ?_
      refine zk9 HT_ HW_ hHeld 12 ?_
      refine zk9 HT_ HW_ hHeld 15 ?_
      refine zq HT_ 16 ?_
      refine zo HT_ 17 (fun K hK => ?_)
      refine goes_ Try.func53 (by kernel_rfl) rfl #[.int .i64 ((rd_T46 y157 x8_2).f1), .int .i64 (wrap64 (((rd_T46 y157 (ji81)).f1) - a0_0))] (by rfl) rfl rfl (by (try simp only [List.map_toArray, List.map_cons, List.map_nil]); first | done | (simp only [hji81]; rfl) | rfl | (simp only [List.length_drop, List.length_take]; rfl)) ?_
      with_reducible refine (spec_l21Min.calls ((rd_T46 y157 x8_2).f1) (wrap64 (((rd_T46 y157 (ji81)).f1) - a0_0)) t160 _ A87.out).mono ?_
      rintro e w' ⟨rfl, ⟨nd, rfl⟩⟩
      refine ⟨_, rfl, ?_⟩
      have p88 : 0 ≤ (x8_2 : Int) := za
      have q88 : (x8_2 : Int) < ((x4_2.length : Int) : Int) := za
      obtain ⟨ce88, hcl88, hM88, hcc88, hfr88⟩ := Kd.R_elem HO_4.out z46 (x8_2 : Int) p88 q88
      obtain rfl := k46_openM hM88
      have hx88_0 : World.cell? _ ⟨go86, (x8_2 : Int).toNat * 2, none⟩ = some (.int .i64 ((rd_T46 y157 x8_2).f0)) := hcc88 0 _ rfl
      have hx88_1 : World.cell? _ ⟨go86, (x8_2 : Int).toNat * 2 + 1, none⟩ = some (.int .i64 ((rd_T46 y157 x8_2).f1)) := hcc88 1 _ rfl
      have hf88_0 : World.frozen? _ ⟨go86, (x8_2 : Int).toNat * 2, none⟩ = false := hfr88 0
      have hf88_1 : World.frozen? _ ⟨go86, (x8_2 : Int).toNat * 2 + 1, none⟩ = false := hfr88 1
      clear hcl88 hcc88 hfr88 hM88
      replace p88 := eq_true p88
      replace q88 := eq_true q88
      obtain ⟨ce96, hcl96, hM96, hcc96, hfr96⟩ := Kd.R_elem HO_4.out z46 (x8_2 : Int) (za) (by have h_ : (x8_2 : Int) < ((x4_2.length : Int) : Int) := za; first | exact h_ | (have e_ := (Kd.R_reads' HO_4.out).1; omega) | simpa using h_)
      obtain rfl := k46_openM hM96
      have HP96 := (Kd.R_seg HO_4.out (x8_2 : Int) (za) (by have h_ : (x8_2 : Int) < ((x4_2.length : Int) : Int) := za; first | exact h_ | (have e_ := (Kd.R_reads' HO_4.out).1; omega) | simpa using h_) (seg := [.int .i64 t160]) (j := 1) hcl96 hcc96 (show 2 ≤ 2 from by decide) (x' := (⟨(rd_T46 y157 x8_2).f0, t160⟩ : S46)) (k46_mkM _ _ _ (⟨(rd_T46 y157 x8_2).f0, t160⟩ : S46) ) (fun _ hk => hk)).1
      rw [← Ny161.out] at HP96
      have HQ96 := zA HP96
      clear hcl96 hcc96 hfr96 hM96 HP96
      refine hK.out _ _ ⟨zc0 BK129, zc1 BK129, zc2 BK129, zc3 BK129, zc4 BK129, hHeld.2.2.2.2.2⟩ (fun hHeld => ?_)
      clear hK K
      refine zN ?_
      refine zq HT_ 18 ?_
      refine zq HT_ 19 ?_
      refine zO HT_ 20 (fun K hK => ?_)
      refine skip_ (w1 := ?_) (by rfl) rfl ?_ ?_
      rotate_left
      ·go_simp
       rfl
      refine hK.out _ _ ?_
      clear hK K
      refine done_ (done_of HT_.out (by kernel_rfl)) ?_
      try go_wp2
      obtain ⟨w97, e_⟩ : ∃ x, x = (w95.setCell ⟨go86, (x8_2 : Int).toNat * 2 + 1, none⟩ (.int .i64 t160)) := ⟨_, rfl⟩
      have n0_ : Aside0 (Kd.R k46 46 w97 w.heap.size (fun _ => True) (.slice (some ⟨go86, 0, none⟩) x4_2.length co91) y161) := by rw [e_]; exact ⟨zr HQ96⟩
      have n1_ : Aside0 (w97.heap[gb129]? = some (.cells #[.int .i64 a0_0, .int .i64 a0_1, .slice A0_2 l0_2.length c0_2, .int .i64 a0_3, .int .i64 a0_4] 34 (0, 0))) := by rw [e_]; exact ⟨by (with_reducible repeat (first | refine blk_drewN ?_ _ | refine blk_drew ?_ | refine blk_alloc ?_ _)); refine blk_far ?_ (by have h_ := Kd.R_ne HO_4.out BK129.out (by decide); intro e_; exact h_ (by rw [e_]; rfl)) _; (with_reducible repeat (first | refine blk_drewN ?_ _ | refine blk_drew ?_ | refine blk_alloc ?_ _)); exact BK129.out⟩
      have n2_ : Aside0 (Below w.heap.size w w97) := by rw [e_]; exact ⟨by repeat (first | (with_reducible first | exact HB.out | apply below_alloc | apply pw_below_drewN | apply below_drew1 | refine below_set ?_ GB86.out | refine below_set ?_ GE129.out) | exact HB.out)⟩
      (try clear HO_4)
      (try clear BK129)
      (try clear HB)
      rw [← e_]; clear e_
      have HO_4 := n0_
      have BK129 := n1_
      have HB := n2_
      clear n0_ n1_ n2_
      (try (rw [drewN_self w97]; generalize hq_ : World.drewN w97 _ = w97; replace HO_4 : Aside0 (Kd.R k46 46 w97 w.heap.size (fun _ => True) (.slice (some ⟨go86, 0, none⟩) x4_2.length co91) y161) := ⟨by rw [← hq_]; exact (zr HO_4)⟩; replace BK129 : Aside0 (w97.heap[gb129]? = some (.cells #[.int .i64 a0_0, .int .i64 a0_1, .slice A0_2 l0_2.length c0_2, .int .i64 a0_3, .int .i64 a0_4] 34 (0, 0))) := ⟨by rw [← hq_]; exact (zh BK129)⟩; replace HB : Aside0 (Below w.heap.size w w97) := ⟨by rw [← hq_]; exact (zs1 HB GE129)⟩; clear hq_))
      replace HO_4 := zA (Kd.R_drew HO_4.out)
      replace BK129 := zA (blk_drew BK129.out)
      replace HB := zA (below_drew1 HB.out)
      have p162 : 0 ≤ (x8_2 : Int) := za
      have q162 : x8_2 < (y161.length : Int) := (by have h_ : (x8_2 : Int) < ((x4_2.length : Int) : Int) := za; first | (have e_ := (Kd.R_reads' HO_4.out).1; omega) | simpa only [Ny157.out, Ny161.out, List.length_set] using h_)
      have ql162 : ((x8_2 : Int) < ((x4_2.length : Int) : Int)) = True := eq_true (za)
      obtain ⟨ad162, e162, hx162_0, hx162_1⟩ := at_T46 (Kd.R_reads' HO_4.out).2.2 x8_2 p162 q162
      obtain rfl : (⟨go86, 0, none⟩ : Addr) = ad162 := (by injection e162)
      (first | simp only [add_plain] at hx162_0 | simp only [add_at] at hx162_0 | simp only [Addr.add, Nat.zero_add] at hx162_0 | skip)
      (first | simp only [add_plain] at hx162_1 | simp only [add_at] at hx162_1 | simp only [Addr.add, Nat.zero_add] at hx162_1 | skip)
      replace p162 := eq_true p162
      replace q162 := eq_true q162
      have p163 : 0 ≤ (x8_2 : Int) := za
      have q163 : x8_2 < (y161.length : Int) := (by have h_ : (x8_2 : Int) < ((x4_2.length : Int) : Int) := za; first | (have e_ := (Kd.R_reads' HO_4.out).1; omega) | simpa only [Ny157.out, Ny161.out, List.length_set] using h_)
      have ql163 : ((x8_2 : Int) < ((x4_2.length : Int) : Int)) = True := eq_true (za)
      obtain ⟨ad163, e163, hx163_0, hx163_1⟩ := at_T46 (Kd.R_reads' HO_4.out).2.2 x8_2 p163 q163
      obtain rfl : (⟨go86, 0, none⟩ : Addr) = ad163 := (by injection e163)
      (first | simp only [add_plain] at hx163_0 | simp only [add_at] at hx163_0 | simp only [Addr.add, Nat.zero_add] at hx163_0 | skip)
      (first | simp only [add_plain] at hx163_1 | simp only [add_at] at hx163_1 | simp only [Addr.add, Nat.zero_add] at hx163_1 | skip)
      replace p163 := eq_true p163
      replace q163 := eq_true q163
      refine start_ (n := 11) (S := fun w' => w'.cell? ⟨go86, (x8_2).toNat * 2, none⟩ = some (.int .i64 ((rd_T46 y161 x8_2).f0)) ∧ w'.cell? ⟨go86, (x8_2).toNat * 2 + 1, none⟩ = some (.int .i64 ((rd_T46 y161 x8_2).f1)) ∧ w'.cell? ⟨go86, (x8_2).toNat * 2, none⟩ = some (.int .i64 ((rd_T46 y161 x8_2).f0)) ∧ w'.cell? ⟨go86, (x8_2).toNat * 2 + 1, none⟩ = some (.int .i64 ((rd_T46 y161 x8_2).f1))) (ds := []) #[F,F,F,F,F,F,F,F,F,F,F] (by kernel_rfl) rfl rfl ⟨hx162_0, hx162_1, hx163_0, hx163_1⟩ (fun hHeld => ?_); refine with_tabW spec_l24Spans.tab18 spec_l24Spans.bits18 (fun HT_ HW_ => ?_)
      generalize w97.drew = w98 at HO_4 BK129 HB HQ96 hx162_0 hx162_1 hx163_0 hx163_1 hHeld ⊢
      refine zq HT_ 0 ?_
      refine zq HT_ 1 ?_
      refine zq HT_ 2 ?_
      refine zq HT_ 3 ?_
      refine zq HT_ 5 ?_
      refine zq HT_ 6 ?_
      refine zq HT_ 7 ?_
      refine zq HT_ 8 ?_
      refine zk4 HT_ HW_ hHeld 4 ?_
      refine zk4 HT_ HW_ hHeld 9 ?_
      refine zq HT_ 10 ?_
      refine done_ (done_of HT_.out (by kernel_rfl)) ?_
      try go_wp2_with (first | ((with_reducible refine gate_dst (N := 123) rfl ?_); refine Kd.R_lit k46 _ 46 ?hg (N := 123) ?hd (xs := ([] : List (S46))) (inner := []) (ok := fun _ => True) (okp := fun _ => True) ?hr ?hp (fun _ hk => hk) trivial (Below.refl _ _) (Nat.le_refl _) (by simp) ?_; (case hd => rfl); (case hg => rfl); (case hr => first | (go_simp; done) | (go_simp; rfl)); (case hp => exact (Reps.none _ _)); intro v165 w99 ho100 hb hg_ hnew_; clear hg_ hnew_; (first | rw [← Ny164.out] at ho100 | (simp only [Int.reduceToNat] at ho100; rw [← Ny164.out] at ho100)); have HO166 := zA (Kd.R_lower (Kd.R_new' ho100 (Kd.R_lt (zr HO_4))) (below_size (zs1 HB GE129))); replace HO_4 := zA (Kd.R_elder' (zr HO_4) (Kd.R_base ho100) hb); replace BK129 := zb BK129 hb; replace HB := zE (zs1 HB GE129) hb; clear hb ho100))
      go_ret2
      exact ⟨_, by first | rfl | (simp [errW_none, errW_some] <;> rfl) | (simp only [← hji81]; first | rfl | (simp [errW_none, errW_some] <;> rfl)) | (simp [*, errW_none, errW_some] <;> rfl), by (with_reducible repeat (first | apply Kd.R_alloc | apply Kd.R_drewN | apply Kd.R_drew)); exact Kd.R_mono HO166.out (fun _ hk => trivial), zs1 HB GE129⟩
   rw [if_pos c6] at H
   have c6b0 : decide (x6_1 ≤ (l0_2.length : Int)) = true := decide_eq_true c6
   clear c6
   replace H := zbd H; obtain ⟨t133, A7, H⟩ := H
   replace H := Option.bind_eq_some_iff.mp H
   obtain ⟨t134, A80, H⟩ := H
   replace H : (if x6_1 > 0 then (if 0 ≤ (wrap64 (x6_1 - 1)) then (if (wrap64 (x6_1 - 1)) < (x4_1.length : Int) then ((spec_l21Max.f t133 (wrap64 (((rd_T46 x4_1 (wrap64 (x6_1 - 1))).f0) + a0_0))).bind fun t137 => ((spec_l23Most.f a0_0 a0_1 l0_2 a0_3 a0_4 (wrap64 (x6_1 - 1))).bind fun t139 => ((spec_l21Min.f t134 (wrap64 (((rd_T46 x4_1 (wrap64 (x6_1 - 1))).f1) + t139))).bind fun t140 => (if t137 > t140 then (some ((([] : List (S46))), false)) else (if x4_1.length < 8796093022208 then (spec_l24Spans.l0 k1 (x4_1 ++ [(⟨t137, t140⟩ : S46)]) (l0_2.length : Int) (wrap64 (x6_1 + 1)) a0_0 a0_1 l0_2 a0_3 a0_4) else (none)))))) else (none)) else (none)) else (if t133 > t134 then (some ((([] : List (S46))), false)) else (if x4_1.length < 8796093022208 then (spec_l24Spans.l0 k1 (x4_1 ++ [(⟨t133, t134⟩ : S46)]) (l0_2.length : Int) (wrap64 (x6_1 + 1)) a0_0 a0_1 l0_2 a0_3 a0_4) else (none)))) = some (r1, r2) := H
   have A8 := zA A80
   clear A80
   by_cases c9 : x6_1 > 0
   rotate_left
   ·rw [if_neg c9] at H
    have c9b0 : decide (0 < x6_1) = false := decide_eq_false c9
    clear c9
    by_cases c55 : t133 > t134
    ·rw [if_pos c55] at H
     have c55b0 : decide (t134 < t133) = true := decide_eq_true c55
     clear c55
     obtain ⟨y147, hy147⟩ : ∃ y_ : List (S46), y_ = (([] : List (S46))) := ⟨_, rfl⟩
     replace H : (some (y147, false)) = some (r1, r2) := by first | (rw [hy147]; with_reducible exact H) | (have H2_ := (Option.bind_some _ _).symm.trans H; rw [hy147]; with_reducible exact H2_) | (have H2_ := (Option.bind_some _ _).symm.trans H; with_reducible exact H2_) | with_reducible exact H | (rw [hy147]; exact H) | exact H
     have Ny147 := zA hy147
     clear hy147
     simp only [Option.some.injEq, Prod.mk.injEq] at H
     obtain ⟨rfl, rfl⟩ := H
     try go_wp2
     replace HO_4 := zA (Kd.R_drew HO_4.out)
     replace BK129 := zA (blk_drew BK129.out)
     replace HB := zA (below_drew1 HB.out)
     refine start_ (n := 9) (S := fun w' => w'.cell? ⟨gb129, 0, none⟩ = some (.int .i64 a0_0) ∧ w'.cell? ⟨gb129, 1, none⟩ = some (.int .i64 a0_1) ∧ w'.cell? ⟨gb129, 2, none⟩ = some (.slice A0_2 l0_2.length c0_2) ∧ w'.cell? ⟨gb129, 3, none⟩ = some (.int .i64 a0_3) ∧ w'.cell? ⟨gb129, 4, none⟩ = some (.int .i64 a0_4)) (ds := []) #[F,F,F,F,F,F,F,F,F] (by kernel_rfl) rfl rfl ⟨zc0 BK129, zc1 BK129, zc2 BK129, zc3 BK129, zc4 BK129⟩ (fun hHeld => ?_); refine with_tabW spec_l24Spans.tab6 spec_l24Spans.bits6 (fun HT_ HW_ => ?_)
     generalize wr.drew = w56 at HO_4 BK129 HB hHeld ⊢
     refine zq HT_ 1 ?_
     refine zq HT_ 4 ?_
     refine zk5 HT_ HW_ hHeld 0 ?_
     refine zk5 HT_ HW_ hHeld 3 ?_
     refine join_ (σ := Nat) 1 #[T,T,T,T,T,T,T,T,F] (fun s_ => [(20, .int .i64 t133), (23, .int .i64 t134), (7, .pointer (some ⟨s_, 0, none⟩)), (24, .agg #[.int .i64 t133, .int .i64 t134])]) (fun s_ w' => (w'.cell? ⟨gb129, 0, none⟩ = some (.int .i64 a0_0) ∧ w'.cell? ⟨gb129, 1, none⟩ = some (.int .i64 a0_1) ∧ w'.cell? ⟨gb129, 2, none⟩ = some (.slice A0_2 l0_2.length c0_2) ∧ w'.cell? ⟨gb129, 3, none⟩ = some (.int .i64 a0_3) ∧ w'.cell? ⟨gb129, 4, none⟩ = some (.int .i64 a0_4)) ∧ (Kd.R k46 46 w' w.heap.size (fun k_ => k_ ≠ s_) u4 x4_1) ∧ (w'.heap[gb129]? = some (.cells #[.int .i64 a0_0, .int .i64 a0_1, .slice A0_2 l0_2.length c0_2, .int .i64 a0_3, .int .i64 a0_4] 34 (0, 0))) ∧ (w'.heap[s_]? = some (.cells #[.int .i64 0, .int .i64 0] 46 (0, 0))) ∧ (w.heap.size ≤ s_) ∧ (w.heap.size ≤ s_) ∧ (gb129 ≠ s_) ∧ (s_ ≠ gb129) ∧ (Below w.heap.size w w')) ?_ ?_
     rotate_left
     ·intro hCont
      refine two_ (i := 2) (j := 7) (Ni := some 20) (Nj := some 7) #[T,T,T,T,T,F,F,F,F] #[T,T,F,T,T,F,F,T,F] rfl rfl rfl rfl (two_of HT_.out (by kernel_rfl)) (by decide) (by decide) (fun K hK => ?_) (fun K hK => ?_)
      ·skip
       refine zgo Try.func80 #[.agg #[.int .i64 a0_0, .int .i64 a0_1, .slice A0_2 l0_2.length c0_2, .int .i64 a0_3, .int .i64 a0_4], .int .i64 x6_1] ?_
       with_reducible refine (spec_l23Low.calls a0_0 a0_1 _ _ l0_2 a0_3 a0_4 x6_1 t133 _ ?side1 ?side2 A7.out).mono ?_
       (case side1 => exact zC HR0_2 HB)
       (case side2 => exact HC0_2.out)
       rintro e w57 ⟨rfl, hb⟩
       refine ⟨_, rfl, ?_⟩
       replace HO_4 := zA (Kd.R_below (zr HO_4) hb)
       replace BK129 := zb BK129 hb
       replace HB := zE (zs1 HB GE129) hb
       (try clear hb)
       (try clear hb2)
       (try clear hk)
       (try clear hi)
       refine hK.out _ _ ⟨zc0 BK129, zc1 BK129, zc2 BK129, zc3 BK129, zc4 BK129⟩ (fun hHeld => ?_)
       clear hK K
       refine zN ?_
       refine two_ (i := 5) (j := 7) (Ni := some 23) (Nj := some 7) #[T,T,T,T,T,T,F,F,F] #[T,T,T,T,T,F,F,T,F] rfl rfl rfl rfl (two_of HT_.out (by kernel_rfl)) (by decide) (by decide) (fun K hK => ?_) (fun K hK => ?_)
       ·skip
        refine zgo Try.func81 #[.agg #[.int .i64 a0_0, .int .i64 a0_1, .slice A0_2 l0_2.length c0_2, .int .i64 a0_3, .int .i64 a0_4], .int .i64 x6_1] ?_
        with_reducible refine (spec_l23High.calls a0_0 a0_1 _ _ l0_2 a0_3 a0_4 x6_1 t134 _ ?side1 ?side2 A8.out).mono ?_
        (case side1 => exact zC HR0_2 HB)
        (case side2 => exact HC0_2.out)
        rintro e w58 ⟨rfl, hb⟩
        refine ⟨_, rfl, ?_⟩
        replace HO_4 := zA (Kd.R_below (zr HO_4) hb)
        replace BK129 := zb BK129 hb
        replace HB := zE (zs1 HB GE129) hb
        (try clear hb)
        (try clear hb2)
        (try clear hk)
        (try clear hi)
        refine hK.out _ _ ⟨zc0 BK129, zc1 BK129, zc2 BK129, zc3 BK129, zc4 BK129⟩ (fun hHeld => ?_)
        clear hK K
        refine zN ?_
        refine zq HT_ 6 ?_
        refine zo HT_ 7 (fun K hK => ?_)
        refine box_step (by rfl) (N := 7) (by rfl) (cs := #[.int .i64 0, .int .i64 0]) (t := 46) zg ?_
        intro gb135 hg w59 hbox hb
        have BK135 := zA hbox
        have GW135 := zgs hg (zs1 HB GE129)
        have GE135 := zgs hg (zs1 HB GE129)
        have NB129_135 := zne hg BK129
        have NB135_129 := znf hg BK129
        replace HO_4 := zA (Kd.R_below (Kd.R_elderB (zr HO_4) gb135 (Nat.le_of_eq hg.symm)) hb)
        replace BK129 := zb BK129 hb
        replace HB := zE (zs1 HB GE129) hb
        clear hb hbox hg
        refine hK.out _ _ ⟨zc0 BK129, zc1 BK129, zc2 BK129, zc3 BK129, zc4 BK129⟩ (fun hHeld => ?_)
        clear hK K
        refine zN ?_
        exact norm_ (by simp only [putAll, Act.put, List.setIfInBounds_toArray, List.set_cons_zero, List.set_cons_succ]) (hCont (gb135) _ ⟨hHeld, (by (with_reducible repeat (first | apply Kd.R_alloc | apply Kd.R_drewN | apply Kd.R_drew)); exact Kd.R_mono HO_4.out (fun _ hk => hk.2)), (zh BK129), (zh BK135), GW135.out, GE135.out, NB129_135.out, NB135_129.out, (zs2 HB GE129 GE135)⟩)
       ·skip
        refine box_step (by rfl) (N := 7) (by rfl) (cs := #[.int .i64 0, .int .i64 0]) (t := 46) zg ?_
        intro gb135 hg w58 hbox hb
        have BK135 := zA hbox
        have GW135 := zgs hg (zs1 HB GE129)
        have GE135 := zgs hg (zs1 HB GE129)
        have NB129_135 := zne hg BK129
        have NB135_129 := znf hg BK129
        replace HO_4 := zA (Kd.R_below (Kd.R_elderB (zr HO_4) gb135 (Nat.le_of_eq hg.symm)) hb)
        replace BK129 := zb BK129 hb
        replace HB := zE (zs1 HB GE129) hb
        clear hb hbox hg
        refine hK.out _ _ ⟨zc0 BK129, zc1 BK129, zc2 BK129, zc3 BK129, zc4 BK129⟩ (fun hHeld => ?_)
        clear hK K
        refine zN ?_
        refine zo HT_ 5 (fun K hK => ?_)
        refine zgo Try.func81 #[.agg #[.int .i64 a0_0, .int .i64 a0_1, .slice A0_2 l0_2.length c0_2, .int .i64 a0_3, .int .i64 a0_4], .int .i64 x6_1] ?_
        with_reducible refine (spec_l23High.calls a0_0 a0_1 _ _ l0_2 a0_3 a0_4 x6_1 t134 _ ?side1 ?side2 A8.out).mono ?_
        (case side1 => exact zC HR0_2 HB)
        (case side2 => exact HC0_2.out)
        rintro e w59 ⟨rfl, hb⟩
        refine ⟨_, rfl, ?_⟩
        replace HO_4 := zA (Kd.R_below (zr HO_4) hb)
        replace BK129 := zb BK129 hb
        replace BK135 := zb BK135 hb
        replace HB := zE (zs2 HB GE129 GE135) hb
        (try clear hb)
        (try clear hb2)
        (try clear hk)
        (try clear hi)
        refine hK.out _ _ ⟨zc0 BK129, zc1 BK129, zc2 BK129, zc3 BK129, zc4 BK129⟩ (fun hHeld => ?_)
        clear hK K
        refine zN ?_
        refine zq HT_ 6 ?_
        exact norm_ (by simp only [putAll, Act.put, List.setIfInBounds_toArray, List.set_cons_zero, List.set_cons_succ]) (hCont (gb135) _ ⟨hHeld, (by (with_reducible repeat (first | apply Kd.R_alloc | apply Kd.R_drewN | apply Kd.R_drew)); exact Kd.R_mono HO_4.out (fun _ hk => hk.2)), (zh BK129), (zh BK135), GW135.out, GE135.out, NB129_135.out, NB135_129.out, (zs2 HB GE129 GE135)⟩)
      ·skip
       refine box_step (by rfl) (N := 7) (by rfl) (cs := #[.int .i64 0, .int .i64 0]) (t := 46) zg ?_
       intro gb135 hg w57 hbox hb
       have BK135 := zA hbox
       have GW135 := zgs hg (zs1 HB GE129)
       have GE135 := zgs hg (zs1 HB GE129)
       have NB129_135 := zne hg BK129
       have NB135_129 := znf hg BK129
       replace HO_4 := zA (Kd.R_below (Kd.R_elderB (zr HO_4) gb135 (Nat.le_of_eq hg.symm)) hb)
       replace BK129 := zb BK129 hb
       replace HB := zE (zs1 HB GE129) hb
       clear hb hbox hg
       refine hK.out _ _ ⟨zc0 BK129, zc1 BK129, zc2 BK129, zc3 BK129, zc4 BK129⟩ (fun hHeld => ?_)
       clear hK K
       refine zN ?_
       refine zo HT_ 2 (fun K hK => ?_)
       refine zgo Try.func80 #[.agg #[.int .i64 a0_0, .int .i64 a0_1, .slice A0_2 l0_2.length c0_2, .int .i64 a0_3, .int .i64 a0_4], .int .i64 x6_1] ?_
       with_reducible refine (spec_l23Low.calls a0_0 a0_1 _ _ l0_2 a0_3 a0_4 x6_1 t133 _ ?side1 ?side2 A7.out).mono ?_
       (case side1 => exact zC HR0_2 HB)
       (case side2 => exact HC0_2.out)
       rintro e w58 ⟨rfl, hb⟩
       refine ⟨_, rfl, ?_⟩
       replace HO_4 := zA (Kd.R_below (zr HO_4) hb)
       replace BK129 := zb BK129 hb
       replace BK135 := zb BK135 hb
       replace HB := zE (zs2 HB GE129 GE135) hb
       (try clear hb)
       (try clear hb2)
       (try clear hk)
       (try clear hi)
       refine hK.out _ _ ⟨zc0 BK129, zc1 BK129, zc2 BK129, zc3 BK129, zc4 BK129⟩ (fun hHeld => ?_)
       clear hK K
       refine zN ?_
       refine zo HT_ 5 (fun K hK => ?_)
       refine zgo Try.func81 #[.agg #[.int .i64 a0_0, .int .i64 a0_1, .slice A0_2 l0_2.length c0_2, .int .i64 a0_3, .int .i64 a0_4], .int .i64 x6_1] ?_
       with_reducible refine (spec_l23High.calls a0_0 a0_1 _ _ l0_2 a0_3 a0_4 x6_1 t134 _ ?side1 ?side2 A8.out).mono ?_
       (case side1 => exact zC HR0_2 HB)
       (case side2 => exact HC0_2.out)
       rintro e w59 ⟨rfl, hb⟩
       refine ⟨_, rfl, ?_⟩
       replace HO_4 := zA (Kd.R_below (zr HO_4) hb)
       replace BK129 := zb BK129 hb
       replace BK135 := zb BK135 hb
       replace HB := zE (zs2 HB GE129 GE135) hb
       (try clear hb)
       (try clear hb2)
       (try clear hk)
       (try clear hi)
       refine hK.out _ _ ⟨zc0 BK129, zc1 BK129, zc2 BK129, zc3 BK129, zc4 BK129⟩ (fun hHeld => ?_)
       clear hK K
       refine zN ?_
       refine zq HT_ 6 ?_
       exact norm_ (by simp only [putAll, Act.put, List.setIfInBounds_toArray, List.set_cons_zero, List.set_cons_succ]) (hCont (gb135) _ ⟨hHeld, (by (with_reducible repeat (first | apply Kd.R_alloc | apply Kd.R_drewN | apply Kd.R_drew)); exact Kd.R_mono HO_4.out (fun _ hk => hk.2)), (zh BK129), (zh BK135), GW135.out, GE135.out, NB129_135.out, NB135_129.out, (zs2 HB GE129 GE135)⟩)
     rintro gb135 w60 ⟨hS_, h0_, h1_, h2_, h3_, h4_, h5_, h6_, h7_⟩
     have BK135 : Aside0 (w60.heap[gb135]? = some (.cells #[.int .i64 0, .int .i64 0] 46 (0, 0))) := ⟨h2_⟩
     have GW135 : Aside0 (w.heap.size ≤ gb135) := ⟨h3_⟩
     have GE135 : Aside0 (w.heap.size ≤ gb135) := ⟨h4_⟩
     have NB129_135 : Aside0 (gb129 ≠ gb135) := ⟨h5_⟩
     have NB135_129 : Aside0 (gb135 ≠ gb129) := ⟨h6_⟩
     replace HO_4 : Aside0 (Kd.R k46 46 w60 w.heap.size (fun k_ => k_ ≠ gb135) u4 x4_1) := ⟨h0_⟩
     replace BK129 : Aside0 (w60.heap[gb129]? = some (.cells #[.int .i64 a0_0, .int .i64 a0_1, .slice A0_2 l0_2.length c0_2, .int .i64 a0_3, .int .i64 a0_4] 34 (0, 0))) := ⟨h1_⟩
     replace HB : Aside0 (Below w.heap.size w w60) := ⟨h7_⟩
     clear h0_ h1_ h2_ h3_ h4_ h5_ h6_ h7_
     have hHeld : w60.cell? ⟨gb129, 0, none⟩ = some (.int .i64 a0_0) ∧ w60.cell? ⟨gb129, 1, none⟩ = some (.int .i64 a0_1) ∧ w60.cell? ⟨gb129, 2, none⟩ = some (.slice A0_2 l0_2.length c0_2) ∧ w60.cell? ⟨gb129, 3, none⟩ = some (.int .i64 a0_3) ∧ w60.cell? ⟨gb129, 4, none⟩ = some (.int .i64 a0_4) := hS_
     refine norm_ (a' := ?_) ?_ ?_
     rotate_left
     ·simp only [putAll, Act.put, List.setIfInBounds_toArray, List.set_cons_zero, List.set_cons_succ]
      rfl
     refine zo HT_ 8 (fun K hK => ?_)
     have hs61 : w60.cell? ⟨gb135, 0, none⟩ = some (.int .i64 0) := zc0 BK135
     have hfs61 := zf BK135 0
     have hns61_0 := NB129_135.out
     have hms61_0 := NB135_129.out
     have hs62 : w60.cell? ⟨gb135, 1, none⟩ = some (.int .i64 0) := zc1 BK135
     have hfs62 := zf BK135 1
     have hns62_0 := NB129_135.out
     have hms62_0 := NB135_129.out
     refine skip_ (w1 := ?_) (by rfl) rfl ?_ ?_
     rotate_left
     ·go_simp
      rfl
     refine hK.out _ _ (zcf hHeld NB129_135) (fun hHeld => ?_)
     clear hK K
     refine done_ (done_of HT_.out (by kernel_rfl)) ?_
     have hnb63 := NB135_129.out
     have hnc63 := NB129_135.out
     obtain ⟨hcz64_0, hcz64_1⟩ := zd2 BK135
     obtain ⟨hfz64_0, hfz64_1⟩ := zn2 BK135
     try go_wp2_with (first | ((with_reducible refine gate_dst (N := 61) rfl ?_); refine Kd.R_lit k46 _ 46 ?hg (N := 61) ?hd (xs := ([] : List (S46))) (inner := []) (ok := fun _ => True) (okp := fun _ => True) ?hr ?hp (fun _ hk => hk) trivial (Below.refl _ _) (Nat.le_refl _) (by simp) ?_; (case hd => rfl); (case hg => rfl); (case hr => first | (go_simp; done) | (go_simp; rfl)); (case hp => exact (Reps.none _ _)); intro v148 w65 ho66 hb hg_ hnew_; clear hg_ hnew_; (first | rw [← Ny147.out] at ho66 | (simp only [Int.reduceToNat] at ho66; rw [← Ny147.out] at ho66)); have HO149 := zA (Kd.R_lower (Kd.R_newB (Kd.R_new' ho66 (Kd.R_lt (by (with_reducible repeat (first | apply Kd.R_alloc | apply Kd.R_drewN | apply Kd.R_drew)); exact (Kd.R_mono (Kd.R_far (p := ⟨gb135, 1, none⟩) (Kd.R_far (p := ⟨gb135, 0, none⟩) (Kd.R_mono HO_4.out (fun k_ hk => (⟨hk, hk⟩ : _ ∧ k_ ≠ gb135))) (fun _ hk => hk.2) (.int .i64 t133)) (fun _ hk => hk.2) (.int .i64 t134)) (fun _ h_ => h_.1))))) (g := gb135) (o := .cells #[.int .i64 t133, .int .i64 t134] 46 (0, 0)) (zpb BK135)) (below_size (zs2 HB GE129 GE135))); replace HO_4 := zA (Kd.R_elder' (by (with_reducible repeat (first | apply Kd.R_alloc | apply Kd.R_drewN | apply Kd.R_drew)); exact (Kd.R_mono (Kd.R_far (p := ⟨gb135, 1, none⟩) (Kd.R_far (p := ⟨gb135, 0, none⟩) (Kd.R_mono HO_4.out (fun k_ hk => (⟨hk, hk⟩ : _ ∧ k_ ≠ gb135))) (fun _ hk => hk.2) (.int .i64 t133)) (fun _ hk => hk.2) (.int .i64 t134)) (fun _ h_ => h_.1))) (Kd.R_base ho66) hb); replace BK129 := zA (blk_below (g := gb129) (o := .cells #[.int .i64 a0_0, .int .i64 a0_1, .slice A0_2 l0_2.length c0_2, .int .i64 a0_3, .int .i64 a0_4] 34 (0, 0)) (zpf BK129 NB129_135) hb); replace BK135 := zA (blk_below (g := gb135) (o := .cells #[.int .i64 t133, .int .i64 t134] 46 (0, 0)) (zpb BK135) hb); replace HB := zE (zs2 HB GE129 GE135) hb; clear hb ho66))
     go_ret2
     exact ⟨_, ze, by (with_reducible repeat (first | apply Kd.R_alloc | apply Kd.R_drewN | apply Kd.R_drew)); exact Kd.R_mono HO149.out (fun _ hk => trivial), zs2 HB GE129 GE135⟩
    rw [if_neg c55] at H
    have c55b0 : decide (t134 < t133) = false := decide_eq_false c55
    clear c55
    by_cases c67 : x4_1.length < 8796093022208
    rotate_left
    ·rw [if_neg c67] at H
     exact absurd H (by simp)
    rw [if_pos c67] at H
    have LMc67 := zA c67
    clear c67
    obtain ⟨y150, hy150⟩ : ∃ y_ : List (S46), y_ = (x4_1 ++ [(⟨t133, t134⟩ : S46)]) := ⟨_, rfl⟩
    replace H : (spec_l24Spans.l0 k1 y150 (l0_2.length : Int) (wrap64 (x6_1 + 1)) a0_0 a0_1 l0_2 a0_3 a0_4) = some (r1, r2) := by first | (rw [hy150]; with_reducible exact H) | (have H2_ := (Option.bind_some _ _).symm.trans H; rw [hy150]; with_reducible exact H2_) | (have H2_ := (Option.bind_some _ _).symm.trans H; with_reducible exact H2_) | with_reducible exact H | (rw [hy150]; exact H) | exact H
    have Ny150 := zA hy150
    clear hy150
    have H' := zA H
    clear H
    try go_wp2
    replace HO_4 := zA (Kd.R_drew HO_4.out)
    replace BK129 := zA (blk_drew BK129.out)
    replace HB := zA (below_drew1 HB.out)
    refine start_ (n := 9) (S := fun w' => w'.cell? ⟨gb129, 0, none⟩ = some (.int .i64 a0_0) ∧ w'.cell? ⟨gb129, 1, none⟩ = some (.int .i64 a0_1) ∧ w'.cell? ⟨gb129, 2, none⟩ = some (.slice A0_2 l0_2.length c0_2) ∧ w'.cell? ⟨gb129, 3, none⟩ = some (.int .i64 a0_3) ∧ w'.cell? ⟨gb129, 4, none⟩ = some (.int .i64 a0_4)) (ds := []) #[F,F,F,F,F,F,F,F,F] (by kernel_rfl) rfl rfl ⟨zc0 BK129, zc1 BK129, zc2 BK129, zc3 BK129, zc4 BK129⟩ (fun hHeld => ?_); refine with_tabW spec_l24Spans.tab6 spec_l24Spans.bits6 (fun HT_ HW_ => ?_)
    generalize wr.drew = w68 at HO_4 BK129 HB hHeld ⊢
    refine zq HT_ 1 ?_
    refine zq HT_ 4 ?_
    refine zk5 HT_ HW_ hHeld 0 ?_
    refine zk5 HT_ HW_ hHeld 3 ?_
    refine join_ (σ := Nat) 1 #[T,T,T,T,T,T,T,T,F] (fun s_ => [(20, .int .i64 t133), (23, .int .i64 t134), (7, .pointer (some ⟨s_, 0, none⟩)), (24, .agg #[.int .i64 t133, .int .i64 t134])]) (fun s_ w' => (w'.cell? ⟨gb129, 0, none⟩ = some (.int .i64 a0_0) ∧ w'.cell? ⟨gb129, 1, none⟩ = some (.int .i64 a0_1) ∧ w'.cell? ⟨gb129, 2, none⟩ = some (.slice A0_2 l0_2.length c0_2) ∧ w'.cell? ⟨gb129, 3, none⟩ = some (.int .i64 a0_3) ∧ w'.cell? ⟨gb129, 4, none⟩ = some (.int .i64 a0_4)) ∧ (Kd.R k46 46 w' w.heap.size (fun k_ => k_ ≠ s_) u4 x4_1) ∧ (w'.heap[gb129]? = some (.cells #[.int .i64 a0_0, .int .i64 a0_1, .slice A0_2 l0_2.length c0_2, .int .i64 a0_3, .int .i64 a0_4] 34 (0, 0))) ∧ (w'.heap[s_]? = some (.cells #[.int .i64 0, .int .i64 0] 46 (0, 0))) ∧ (w.heap.size ≤ s_) ∧ (w.heap.size ≤ s_) ∧ (gb129 ≠ s_) ∧ (s_ ≠ gb129) ∧ (Below w.heap.size w w')) ?_ ?_
    rotate_left
    ·intro hCont
     refine two_ (i := 2) (j := 7) (Ni := some 20) (Nj := some 7) #[T,T,T,T,T,F,F,F,F] #[T,T,F,T,T,F,F,T,F] rfl rfl rfl rfl (two_of HT_.out (by kernel_rfl)) (by decide) (by decide) (fun K hK => ?_) (fun K hK => ?_)
     ·skip
      refine zgo Try.func80 #[.agg #[.int .i64 a0_0, .int .i64 a0_1, .slice A0_2 l0_2.length c0_2, .int .i64 a0_3, .int .i64 a0_4], .int .i64 x6_1] ?_
      with_reducible refine (spec_l23Low.calls a0_0 a0_1 _ _ l0_2 a0_3 a0_4 x6_1 t133 _ ?side1 ?side2 A7.out).mono ?_
      (case side1 => exact zC HR0_2 HB)
      (case side2 => exact HC0_2.out)
      rintro e w69 ⟨rfl, hb⟩
      refine ⟨_, rfl, ?_⟩
      replace HO_4 := zA (Kd.R_below (zr HO_4) hb)
      replace BK129 := zb BK129 hb
      replace HB := zE (zs1 HB GE129) hb
      (try clear hb)
      (try clear hb2)
      (try clear hk)
      (try clear hi)
      refine hK.out _ _ ⟨zc0 BK129, zc1 BK129, zc2 BK129, zc3 BK129, zc4 BK129⟩ (fun hHeld => ?_)
      clear hK K
      refine zN ?_
      refine two_ (i := 5) (j := 7) (Ni := some 23) (Nj := some 7) #[T,T,T,T,T,T,F,F,F] #[T,T,T,T,T,F,F,T,F] rfl rfl rfl rfl (two_of HT_.out (by kernel_rfl)) (by decide) (by decide) (fun K hK => ?_) (fun K hK => ?_)
      ·skip
       refine zgo Try.func81 #[.agg #[.int .i64 a0_0, .int .i64 a0_1, .slice A0_2 l0_2.length c0_2, .int .i64 a0_3, .int .i64 a0_4], .int .i64 x6_1] ?_
       with_reducible refine (spec_l23High.calls a0_0 a0_1 _ _ l0_2 a0_3 a0_4 x6_1 t134 _ ?side1 ?side2 A8.out).mono ?_
       (case side1 => exact zC HR0_2 HB)
       (case side2 => exact HC0_2.out)
       rintro e w70 ⟨rfl, hb⟩
       refine ⟨_, rfl, ?_⟩
       replace HO_4 := zA (Kd.R_below (zr HO_4) hb)
       replace BK129 := zb BK129 hb
       replace HB := zE (zs1 HB GE129) hb
       (try clear hb)
       (try clear hb2)
       (try clear hk)
       (try clear hi)
       refine hK.out _ _ ⟨zc0 BK129, zc1 BK129, zc2 BK129, zc3 BK129, zc4 BK129⟩ (fun hHeld => ?_)
       clear hK K
       refine zN ?_
       refine zq HT_ 6 ?_
       refine zo HT_ 7 (fun K hK => ?_)
       refine box_step (by rfl) (N := 7) (by rfl) (cs := #[.int .i64 0, .int .i64 0]) (t := 46) zg ?_
       intro gb135 hg w71 hbox hb
       have BK135 := zA hbox
       have GW135 := zgs hg (zs1 HB GE129)
       have GE135 := zgs hg (zs1 HB GE129)
       have NB129_135 := zne hg BK129
       have NB135_129 := znf hg BK129
       replace HO_4 := zA (Kd.R_below (Kd.R_elderB (zr HO_4) gb135 (Nat.le_of_eq hg.symm)) hb)
       replace BK129 := zb BK129 hb
       replace HB := zE (zs1 HB GE129) hb
       clear hb hbox hg
       refine hK.out _ _ ⟨zc0 BK129, zc1 BK129, zc2 BK129, zc3 BK129, zc4 BK129⟩ (fun hHeld => ?_)
       clear hK K
       refine zN ?_
       exact norm_ (by simp only [putAll, Act.put, List.setIfInBounds_toArray, List.set_cons_zero, List.set_cons_succ]) (hCont (gb135) _ ⟨hHeld, (by (with_reducible repeat (first | apply Kd.R_alloc | apply Kd.R_drewN | apply Kd.R_drew)); exact Kd.R_mono HO_4.out (fun _ hk => hk.2)), (zh BK129), (zh BK135), GW135.out, GE135.out, NB129_135.out, NB135_129.out, (zs2 HB GE129 GE135)⟩)
      ·skip
       refine box_step (by rfl) (N := 7) (by rfl) (cs := #[.int .i64 0, .int .i64 0]) (t := 46) zg ?_
       intro gb135 hg w70 hbox hb
       have BK135 := zA hbox
       have GW135 := zgs hg (zs1 HB GE129)
       have GE135 := zgs hg (zs1 HB GE129)
       have NB129_135 := zne hg BK129
       have NB135_129 := znf hg BK129
       replace HO_4 := zA (Kd.R_below (Kd.R_elderB (zr HO_4) gb135 (Nat.le_of_eq hg.symm)) hb)
       replace BK129 := zb BK129 hb
       replace HB := zE (zs1 HB GE129) hb
       clear hb hbox hg
       refine hK.out _ _ ⟨zc0 BK129, zc1 BK129, zc2 BK129, zc3 BK129, zc4 BK129⟩ (fun hHeld => ?_)
       clear hK K
       refine zN ?_
       refine zo HT_ 5 (fun K hK => ?_)
       refine zgo Try.func81 #[.agg #[.int .i64 a0_0, .int .i64 a0_1, .slice A0_2 l0_2.length c0_2, .int .i64 a0_3, .int .i64 a0_4], .int .i64 x6_1] ?_
       with_reducible refine (spec_l23High.calls a0_0 a0_1 _ _ l0_2 a0_3 a0_4 x6_1 t134 _ ?side1 ?side2 A8.out).mono ?_
       (case side1 => exact zC HR0_2 HB)
       (case side2 => exact HC0_2.out)
       rintro e w71 ⟨rfl, hb⟩
       refine ⟨_, rfl, ?_⟩
       replace HO_4 := zA (Kd.R_below (zr HO_4) hb)
       replace BK129 := zb BK129 hb
       replace BK135 := zb BK135 hb
       replace HB := zE (zs2 HB GE129 GE135) hb
       (try clear hb)
       (try clear hb2)
       (try clear hk)
       (try clear hi)
       refine hK.out _ _ ⟨zc0 BK129, zc1 BK129, zc2 BK129, zc3 BK129, zc4 BK129⟩ (fun hHeld => ?_)
       clear hK K
       refine zN ?_
       refine zq HT_ 6 ?_
       exact norm_ (by simp only [putAll, Act.put, List.setIfInBounds_toArray, List.set_cons_zero, List.set_cons_succ]) (hCont (gb135) _ ⟨hHeld, (by (with_reducible repeat (first | apply Kd.R_alloc | apply Kd.R_drewN | apply Kd.R_drew)); exact Kd.R_mono HO_4.out (fun _ hk => hk.2)), (zh BK129), (zh BK135), GW135.out, GE135.out, NB129_135.out, NB135_129.out, (zs2 HB GE129 GE135)⟩)
     ·skip
      refine box_step (by rfl) (N := 7) (by rfl) (cs := #[.int .i64 0, .int .i64 0]) (t := 46) zg ?_
      intro gb135 hg w69 hbox hb
      have BK135 := zA hbox
      have GW135 := zgs hg (zs1 HB GE129)
      have GE135 := zgs hg (zs1 HB GE129)
      have NB129_135 := zne hg BK129
      have NB135_129 := znf hg BK129
      replace HO_4 := zA (Kd.R_below (Kd.R_elderB (zr HO_4) gb135 (Nat.le_of_eq hg.symm)) hb)
      replace BK129 := zb BK129 hb
      replace HB := zE (zs1 HB GE129) hb
      clear hb hbox hg
      refine hK.out _ _ ⟨zc0 BK129, zc1 BK129, zc2 BK129, zc3 BK129, zc4 BK129⟩ (fun hHeld => ?_)
      clear hK K
      refine zN ?_
      refine zo HT_ 2 (fun K hK => ?_)
      refine zgo Try.func80 #[.agg #[.int .i64 a0_0, .int .i64 a0_1, .slice A0_2 l0_2.length c0_2, .int .i64 a0_3, .int .i64 a0_4], .int .i64 x6_1] ?_
      with_reducible refine (spec_l23Low.calls a0_0 a0_1 _ _ l0_2 a0_3 a0_4 x6_1 t133 _ ?side1 ?side2 A7.out).mono ?_
      (case side1 => exact zC HR0_2 HB)
      (case side2 => exact HC0_2.out)
      rintro e w70 ⟨rfl, hb⟩
      refine ⟨_, rfl, ?_⟩
      replace HO_4 := zA (Kd.R_below (zr HO_4) hb)
      replace BK129 := zb BK129 hb
      replace BK135 := zb BK135 hb
      replace HB := zE (zs2 HB GE129 GE135) hb
      (try clear hb)
      (try clear hb2)
      (try clear hk)
      (try clear hi)
      refine hK.out _ _ ⟨zc0 BK129, zc1 BK129, zc2 BK129, zc3 BK129, zc4 BK129⟩ (fun hHeld => ?_)
      clear hK K
      refine zN ?_
      refine zo HT_ 5 (fun K hK => ?_)
      refine zgo Try.func81 #[.agg #[.int .i64 a0_0, .int .i64 a0_1, .slice A0_2 l0_2.length c0_2, .int .i64 a0_3, .int .i64 a0_4], .int .i64 x6_1] ?_
      with_reducible refine (spec_l23High.calls a0_0 a0_1 _ _ l0_2 a0_3 a0_4 x6_1 t134 _ ?side1 ?side2 A8.out).mono ?_
      (case side1 => exact zC HR0_2 HB)
      (case side2 => exact HC0_2.out)
      rintro e w71 ⟨rfl, hb⟩
      refine ⟨_, rfl, ?_⟩
      replace HO_4 := zA (Kd.R_below (zr HO_4) hb)
      replace BK129 := zb BK129 hb
      replace BK135 := zb BK135 hb
      replace HB := zE (zs2 HB GE129 GE135) hb
      (try clear hb)
      (try clear hb2)
      (try clear hk)
      (try clear hi)
      refine hK.out _ _ ⟨zc0 BK129, zc1 BK129, zc2 BK129, zc3 BK129, zc4 BK129⟩ (fun hHeld => ?_)
      clear hK K
      refine zN ?_
      refine zq HT_ 6 ?_
      exact norm_ (by simp only [putAll, Act.put, List.setIfInBounds_toArray, List.set_cons_zero, List.set_cons_succ]) (hCont (gb135) _ ⟨hHeld, (by (with_reducible repeat (first | apply Kd.R_alloc | apply Kd.R_drewN | apply Kd.R_drew)); exact Kd.R_mono HO_4.out (fun _ hk => hk.2)), (zh BK129), (zh BK135), GW135.out, GE135.out, NB129_135.out, NB135_129.out, (zs2 HB GE129 GE135)⟩)
    rintro gb135 w72 ⟨hS_, h0_, h1_, h2_, h3_, h4_, h5_, h6_, h7_⟩
    have BK135 : Aside0 (w72.heap[gb135]? = some (.cells #[.int .i64 0, .int .i64 0] 46 (0, 0))) := ⟨h2_⟩
    have GW135 : Aside0 (w.heap.size ≤ gb135) := ⟨h3_⟩
    have GE135 : Aside0 (w.heap.size ≤ gb135) := ⟨h4_⟩
    have NB129_135 : Aside0 (gb129 ≠ gb135) := ⟨h5_⟩
    have NB135_129 : Aside0 (gb135 ≠ gb129) := ⟨h6_⟩
    replace HO_4 : Aside0 (Kd.R k46 46 w72 w.heap.size (fun k_ => k_ ≠ gb135) u4 x4_1) := ⟨h0_⟩
    replace BK129 : Aside0 (w72.heap[gb129]? = some (.cells #[.int .i64 a0_0, .int .i64 a0_1, .slice A0_2 l0_2.length c0_2, .int .i64 a0_3, .int .i64 a0_4] 34 (0, 0))) := ⟨h1_⟩
    replace HB : Aside0 (Below w.heap.size w w72) := ⟨h7_⟩
    clear h0_ h1_ h2_ h3_ h4_ h5_ h6_ h7_
    have hHeld : w72.cell? ⟨gb129, 0, none⟩ = some (.int .i64 a0_0) ∧ w72.cell? ⟨gb129, 1, none⟩ = some (.int .i64 a0_1) ∧ w72.cell? ⟨gb129, 2, none⟩ = some (.slice A0_2 l0_2.length c0_2) ∧ w72.cell? ⟨gb129, 3, none⟩ = some (.int .i64 a0_3) ∧ w72.cell? ⟨gb129, 4, none⟩ = some (.int .i64 a0_4) := hS_
    refine norm_ (a' := ?_) ?_ ?_
    rotate_left
    ·simp only [putAll, Act.put, List.setIfInBounds_toArray, List.set_cons_zero, List.set_cons_succ]
     rfl
    refine zo HT_ 8 (fun K hK => ?_)
    have hs73 : w72.cell? ⟨gb135, 0, none⟩ = some (.int .i64 0) := zc0 BK135
    have hfs73 := zf BK135 0
    have hns73_0 := NB129_135.out
    have hms73_0 := NB135_129.out
    have hs74 : w72.cell? ⟨gb135, 1, none⟩ = some (.int .i64 0) := zc1 BK135
    have hfs74 := zf BK135 1
    have hns74_0 := NB129_135.out
    have hms74_0 := NB135_129.out
    refine skip_ (w1 := ?_) (by rfl) rfl ?_ ?_
    rotate_left
    ·go_simp
     rfl
    refine hK.out _ _ (zcf hHeld NB129_135) (fun hHeld => ?_)
    clear hK K
    refine done_ (done_of HT_.out (by kernel_rfl)) ?_
    have hnb75 := NB135_129.out
    have hnc75 := NB129_135.out
    obtain ⟨hcz76_0, hcz76_1⟩ := zd2 BK135
    obtain ⟨hfz76_0, hfz76_1⟩ := zn2 BK135
    try go_wp2_with (first | ((with_reducible refine gate_builtin (b := .append) (xs := #[.tmp 62, .tmp 64]) rfl ?_); at_builtin; refine Kd.R_append k46 (w0 := w) w.heap.size rfl (.tmp 62) (.tmp 64) 63 46 (.agg #[(.int .i64 0), (.int .i64 0)]) 16 rfl Try.underlying63 info46 rfl (by decide) (by omega) u4 x4_1 (⟨t133, t134⟩ : S46) [.int .i64 t133, .int .i64 t134] (fun k_ => k_ ≠ gb135) (fun _ => False) rfl (by first | (go_simp; done) | (go_simp; rfl)) ?aP (fun _ hk => hk.elim) ?aF ?aO ?aB ?aS ?aL ?_; (case aP => exact k46_mkM _ _ _ (⟨t133, t134⟩ : S46)); (case aB => exact (zs2 HB GE129 GE135)); (case aF => exact (fun k_ hk => Kd.freshB (g := gb135) (o := .cells #[.int .i64 t133, .int .i64 t134] 46 (0, 0)) (zpb BK135) k_ hk)); (case aO => exact (by (with_reducible repeat (first | apply Kd.R_alloc | apply Kd.R_drewN | apply Kd.R_drew)); exact Kd.R_mono (Kd.R_far (p := ⟨gb135, 1, none⟩) (Kd.R_far (p := ⟨gb135, 0, none⟩) (Kd.R_mono HO_4.out (fun k_ hk => (⟨hk, hk⟩ : _ ∧ k_ ≠ gb135))) (fun _ hk => hk.2) (.int .i64 t133)) (fun _ hk => hk.2) (.int .i64 t134)) (fun _ hk => hk.1))); (case aS => exact (below_size (zs2 HB GE129 GE135))); (case aL => have := LMc67.out; omega); intro v151 w77 ho hb hg hat; rw [← Ny150.out] at ho; have HO152 := zA (ho); replace BK129 := zA (blk_grown (g := gb129) (o := .cells #[.int .i64 a0_0, .int .i64 a0_1, .slice A0_2 l0_2.length c0_2, .int .i64 a0_3, .int .i64 a0_4] 34 (0, 0)) (zpf BK129 NB129_135) hg (Kd.R_ne HO_4.out BK129.out (by decide))); replace BK135 := zA (blk_grown (g := gb135) (o := .cells #[.int .i64 t133, .int .i64 t134] 46 (0, 0)) (zpb BK135) hg (Kd.R_away HO_4.out (fun _ hk => hk))); replace HB := zA (hb); clear HO_4; clear ho hb hg hat))
    go_roundg k1
    case measure => have := HK1.out; omega
    case rel => exact ⟨(y150), (wrap64 (x6_1 + 1)), zi, H', ⟨by have := HK1.out; omega⟩, ⟨by (with_reducible repeat (first | apply Kd.R_alloc | apply Kd.R_drewN | apply Kd.R_drew)); exact Kd.R_mono HO152.out (fun _ hk => trivial)⟩, ⟨zh BK129⟩, ⟨zs2 HB GE129 GE135⟩⟩
   rw [if_pos c9] at H
   have c9b0 : decide (0 < x6_1) = true := decide_eq_true c9
   clear c9
   obtain ⟨ji10, hji10⟩ : ∃ j_ : Int, (wrap64 (x6_1 - 1)) = j_ := ⟨_, rfl⟩
   first | rw [hji10] at H | simp only [hji10] at H
   (try rw [hji10] at A7)
   (try rw [hji10] at A8)
   have hji10w : (IntKind.i64.wrap (x6_1 - 1)) = ji10 := (i64_w _).trans hji10
   by_cases c11 : 0 ≤ (ji10)
   rotate_left
   ·rw [if_neg c11] at H
    exact absurd H (by simp)
   rw [if_pos c11] at H
   have c11b0 : decide (0 ≤ (ji10)) = true := decide_eq_true c11
   clear c11
   by_cases c12 : (ji10) < (x4_1.length : Int)
   rotate_left
   ·rw [if_neg c12] at H
    exact absurd H (by simp)
   rw [if_pos c12] at H
   have c12b0 : decide ((ji10) < (x4_1.length : Int)) = true := decide_eq_true c12
   clear c12
   replace H := zbd H; obtain ⟨t137, A13, H⟩ := H
   replace H := Option.bind_eq_some_iff.mp H
   obtain ⟨t139, A140, H⟩ := H
   replace H : ((spec_l21Min.f t134 (wrap64 (((rd_T46 x4_1 (ji10)).f1) + t139))).bind fun t140 => (if t137 > t140 then (some ((([] : List (S46))), false)) else (if x4_1.length < 8796093022208 then (spec_l24Spans.l0 k1 (x4_1 ++ [(⟨t137, t140⟩ : S46)]) (l0_2.length : Int) (wrap64 (x6_1 + 1)) a0_0 a0_1 l0_2 a0_3 a0_4) else (none)))) = some (r1, r2) := H
   have A14 := zA A140
   clear A140
   replace H := zbd H; obtain ⟨t140, A15, H⟩ := H
   by_cases c16 : t137 > t140
   ·rw [if_pos c16] at H
    have c16b0 : decide (t140 < t137) = true := decide_eq_true c16
    clear c16
    obtain ⟨y141, hy141⟩ : ∃ y_ : List (S46), y_ = (([] : List (S46))) := ⟨_, rfl⟩
    replace H : (some (y141, false)) = some (r1, r2) := by first | (rw [hy141]; with_reducible exact H) | (have H2_ := (Option.bind_some _ _).symm.trans H; rw [hy141]; with_reducible exact H2_) | (have H2_ := (Option.bind_some _ _).symm.trans H; with_reducible exact H2_) | with_reducible exact H | (rw [hy141]; exact H) | exact H
    have Ny141 := zA hy141
    clear hy141
    simp only [Option.some.injEq, Prod.mk.injEq] at H
    obtain ⟨rfl, rfl⟩ := H
    try go_wp2
    replace HO_4 := zA (Kd.R_drew HO_4.out)
    replace BK129 := zA (blk_drew BK129.out)
    replace HB := zA (below_drew1 HB.out)
    refine start_ (n := 9) (S := fun w' => w'.cell? ⟨gb129, 0, none⟩ = some (.int .i64 a0_0) ∧ w'.cell? ⟨gb129, 1, none⟩ = some (.int .i64 a0_1) ∧ w'.cell? ⟨gb129, 2, none⟩ = some (.slice A0_2 l0_2.length c0_2) ∧ w'.cell? ⟨gb129, 3, none⟩ = some (.int .i64 a0_3) ∧ w'.cell? ⟨gb129, 4, none⟩ = some (.int .i64 a0_4)) (ds := []) #[F,F,F,F,F,F,F,F,F] (by kernel_rfl) rfl rfl ⟨zc0 BK129, zc1 BK129, zc2 BK129, zc3 BK129, zc4 BK129⟩ (fun hHeld => ?_); refine with_tabW spec_l24Spans.tab6 spec_l24Spans.bits6 (fun HT_ HW_ => ?_)
    generalize wr.drew = w17 at HO_4 BK129 HB hHeld ⊢
    refine zq HT_ 1 ?_
    refine zq HT_ 4 ?_
    refine zk5 HT_ HW_ hHeld 0 ?_
    refine zk5 HT_ HW_ hHeld 3 ?_
    refine join_ (σ := Nat) 1 #[T,T,T,T,T,T,T,T,F] (fun s_ => [(20, .int .i64 t133), (23, .int .i64 t134), (7, .pointer (some ⟨s_, 0, none⟩)), (24, .agg #[.int .i64 t133, .int .i64 t134])]) (fun s_ w' => (w'.cell? ⟨gb129, 0, none⟩ = some (.int .i64 a0_0) ∧ w'.cell? ⟨gb129, 1, none⟩ = some (.int .i64 a0_1) ∧ w'.cell? ⟨gb129, 2, none⟩ = some (.slice A0_2 l0_2.length c0_2) ∧ w'.cell? ⟨gb129, 3, none⟩ = some (.int .i64 a0_3) ∧ w'.cell? ⟨gb129, 4, none⟩ = some (.int .i64 a0_4)) ∧ (Kd.R k46 46 w' w.heap.size (fun k_ => k_ ≠ s_) u4 x4_1) ∧ (w'.heap[gb129]? = some (.cells #[.int .i64 a0_0, .int .i64 a0_1, .slice A0_2 l0_2.length c0_2, .int .i64 a0_3, .int .i64 a0_4] 34 (0, 0))) ∧ (w'.heap[s_]? = some (.cells #[.int .i64 0, .int .i64 0] 46 (0, 0))) ∧ (w.heap.size ≤ s_) ∧ (w.heap.size ≤ s_) ∧ (gb129 ≠ s_) ∧ (s_ ≠ gb129) ∧ (Below w.heap.size w w')) ?_ ?_
    rotate_left
    ·intro hCont
     refine two_ (i := 2) (j := 7) (Ni := some 20) (Nj := some 7) #[T,T,T,T,T,F,F,F,F] #[T,T,F,T,T,F,F,T,F] rfl rfl rfl rfl (two_of HT_.out (by kernel_rfl)) (by decide) (by decide) (fun K hK => ?_) (fun K hK => ?_)
     ·skip
      refine zgo Try.func80 #[.agg #[.int .i64 a0_0, .int .i64 a0_1, .slice A0_2 l0_2.length c0_2, .int .i64 a0_3, .int .i64 a0_4], .int .i64 x6_1] ?_
      with_reducible refine (spec_l23Low.calls a0_0 a0_1 _ _ l0_2 a0_3 a0_4 x6_1 t133 _ ?side1 ?side2 A7.out).mono ?_
      (case side1 => exact zC HR0_2 HB)
      (case side2 => exact HC0_2.out)
      rintro e w18 ⟨rfl, hb⟩
      refine ⟨_, rfl, ?_⟩
      replace HO_4 := zA (Kd.R_below (zr HO_4) hb)
      replace BK129 := zb BK129 hb
      replace HB := zE (zs1 HB GE129) hb
      (try clear hb)
      (try clear hb2)
      (try clear hk)
      (try clear hi)
      refine hK.out _ _ ⟨zc0 BK129, zc1 BK129, zc2 BK129, zc3 BK129, zc4 BK129⟩ (fun hHeld => ?_)
      clear hK K
      refine zN ?_
      refine two_ (i := 5) (j := 7) (Ni := some 23) (Nj := some 7) #[T,T,T,T,T,T,F,F,F] #[T,T,T,T,T,F,F,T,F] rfl rfl rfl rfl (two_of HT_.out (by kernel_rfl)) (by decide) (by decide) (fun K hK => ?_) (fun K hK => ?_)
      ·skip
       refine zgo Try.func81 #[.agg #[.int .i64 a0_0, .int .i64 a0_1, .slice A0_2 l0_2.length c0_2, .int .i64 a0_3, .int .i64 a0_4], .int .i64 x6_1] ?_
       with_reducible refine (spec_l23High.calls a0_0 a0_1 _ _ l0_2 a0_3 a0_4 x6_1 t134 _ ?side1 ?side2 A8.out).mono ?_
       (case side1 => exact zC HR0_2 HB)
       (case side2 => exact HC0_2.out)
       rintro e w19 ⟨rfl, hb⟩
       refine ⟨_, rfl, ?_⟩
       replace HO_4 := zA (Kd.R_below (zr HO_4) hb)
       replace BK129 := zb BK129 hb
       replace HB := zE (zs1 HB GE129) hb
       (try clear hb)
       (try clear hb2)
       (try clear hk)
       (try clear hi)
       refine hK.out _ _ ⟨zc0 BK129, zc1 BK129, zc2 BK129, zc3 BK129, zc4 BK129⟩ (fun hHeld => ?_)
       clear hK K
       refine zN ?_
       refine zq HT_ 6 ?_
       refine zo HT_ 7 (fun K hK => ?_)
       refine box_step (by rfl) (N := 7) (by rfl) (cs := #[.int .i64 0, .int .i64 0]) (t := 46) zg ?_
       intro gb135 hg w20 hbox hb
       have BK135 := zA hbox
       have GW135 := zgs hg (zs1 HB GE129)
       have GE135 := zgs hg (zs1 HB GE129)
       have NB129_135 := zne hg BK129
       have NB135_129 := znf hg BK129
       replace HO_4 := zA (Kd.R_below (Kd.R_elderB (zr HO_4) gb135 (Nat.le_of_eq hg.symm)) hb)
       replace BK129 := zb BK129 hb
       replace HB := zE (zs1 HB GE129) hb
       clear hb hbox hg
       refine hK.out _ _ ⟨zc0 BK129, zc1 BK129, zc2 BK129, zc3 BK129, zc4 BK129⟩ (fun hHeld => ?_)
       clear hK K
       refine zN ?_
       exact norm_ (by simp only [putAll, Act.put, List.setIfInBounds_toArray, List.set_cons_zero, List.set_cons_succ]) (hCont (gb135) _ ⟨hHeld, (by (with_reducible repeat (first | apply Kd.R_alloc | apply Kd.R_drewN | apply Kd.R_drew)); exact Kd.R_mono HO_4.out (fun _ hk => hk.2)), (zh BK129), (zh BK135), GW135.out, GE135.out, NB129_135.out, NB135_129.out, (zs2 HB GE129 GE135)⟩)
      ·skip
       refine box_step (by rfl) (N := 7) (by rfl) (cs := #[.int .i64 0, .int .i64 0]) (t := 46) zg ?_
       intro gb135 hg w19 hbox hb
       have BK135 := zA hbox
       have GW135 := zgs hg (zs1 HB GE129)
       have GE135 := zgs hg (zs1 HB GE129)
       have NB129_135 := zne hg BK129
       have NB135_129 := znf hg BK129
       replace HO_4 := zA (Kd.R_below (Kd.R_elderB (zr HO_4) gb135 (Nat.le_of_eq hg.symm)) hb)
       replace BK129 := zb BK129 hb
       replace HB := zE (zs1 HB GE129) hb
       clear hb hbox hg
       refine hK.out _ _ ⟨zc0 BK129, zc1 BK129, zc2 BK129, zc3 BK129, zc4 BK129⟩ (fun hHeld => ?_)
       clear hK K
       refine zN ?_
       refine zo HT_ 5 (fun K hK => ?_)
       refine zgo Try.func81 #[.agg #[.int .i64 a0_0, .int .i64 a0_1, .slice A0_2 l0_2.length c0_2, .int .i64 a0_3, .int .i64 a0_4], .int .i64 x6_1] ?_
       with_reducible refine (spec_l23High.calls a0_0 a0_1 _ _ l0_2 a0_3 a0_4 x6_1 t134 _ ?side1 ?side2 A8.out).mono ?_
       (case side1 => exact zC HR0_2 HB)
       (case side2 => exact HC0_2.out)
       rintro e w20 ⟨rfl, hb⟩
       refine ⟨_, rfl, ?_⟩
       replace HO_4 := zA (Kd.R_below (zr HO_4) hb)
       replace BK129 := zb BK129 hb
       replace BK135 := zb BK135 hb
       replace HB := zE (zs2 HB GE129 GE135) hb
       (try clear hb)
       (try clear hb2)
       (try clear hk)
       (try clear hi)
       refine hK.out _ _ ⟨zc0 BK129, zc1 BK129, zc2 BK129, zc3 BK129, zc4 BK129⟩ (fun hHeld => ?_)
       clear hK K
       refine zN ?_
       refine zq HT_ 6 ?_
       exact norm_ (by simp only [putAll, Act.put, List.setIfInBounds_toArray, List.set_cons_zero, List.set_cons_succ]) (hCont (gb135) _ ⟨hHeld, (by (with_reducible repeat (first | apply Kd.R_alloc | apply Kd.R_drewN | apply Kd.R_drew)); exact Kd.R_mono HO_4.out (fun _ hk => hk.2)), (zh BK129), (zh BK135), GW135.out, GE135.out, NB129_135.out, NB135_129.out, (zs2 HB GE129 GE135)⟩)
     ·skip
      refine box_step (by rfl) (N := 7) (by rfl) (cs := #[.int .i64 0, .int .i64 0]) (t := 46) zg ?_
      intro gb135 hg w18 hbox hb
      have BK135 := zA hbox
      have GW135 := zgs hg (zs1 HB GE129)
      have GE135 := zgs hg (zs1 HB GE129)
      have NB129_135 := zne hg BK129
      have NB135_129 := znf hg BK129
      replace HO_4 := zA (Kd.R_below (Kd.R_elderB (zr HO_4) gb135 (Nat.le_of_eq hg.symm)) hb)
      replace BK129 := zb BK129 hb
      replace HB := zE (zs1 HB GE129) hb
      clear hb hbox hg
      refine hK.out _ _ ⟨zc0 BK129, zc1 BK129, zc2 BK129, zc3 BK129, zc4 BK129⟩ (fun hHeld => ?_)
      clear hK K
      refine zN ?_
      refine zo HT_ 2 (fun K hK => ?_)
      refine zgo Try.func80 #[.agg #[.int .i64 a0_0, .int .i64 a0_1, .slice A0_2 l0_2.length c0_2, .int .i64 a0_3, .int .i64 a0_4], .int .i64 x6_1] ?_
      with_reducible refine (spec_l23Low.calls a0_0 a0_1 _ _ l0_2 a0_3 a0_4 x6_1 t133 _ ?side1 ?side2 A7.out).mono ?_
      (case side1 => exact zC HR0_2 HB)
      (case side2 => exact HC0_2.out)
      rintro e w19 ⟨rfl, hb⟩
      refine ⟨_, rfl, ?_⟩
      replace HO_4 := zA (Kd.R_below (zr HO_4) hb)
      replace BK129 := zb BK129 hb
      replace BK135 := zb BK135 hb
      replace HB := zE (zs2 HB GE129 GE135) hb
      (try clear hb)
      (try clear hb2)
      (try clear hk)
      (try clear hi)
      refine hK.out _ _ ⟨zc0 BK129, zc1 BK129, zc2 BK129, zc3 BK129, zc4 BK129⟩ (fun hHeld => ?_)
      clear hK K
      refine zN ?_
      refine zo HT_ 5 (fun K hK => ?_)
      refine zgo Try.func81 #[.agg #[.int .i64 a0_0, .int .i64 a0_1, .slice A0_2 l0_2.length c0_2, .int .i64 a0_3, .int .i64 a0_4], .int .i64 x6_1] ?_
      with_reducible refine (spec_l23High.calls a0_0 a0_1 _ _ l0_2 a0_3 a0_4 x6_1 t134 _ ?side1 ?side2 A8.out).mono ?_
      (case side1 => exact zC HR0_2 HB)
      (case side2 => exact HC0_2.out)
      rintro e w20 ⟨rfl, hb⟩
      refine ⟨_, rfl, ?_⟩
      replace HO_4 := zA (Kd.R_below (zr HO_4) hb)
      replace BK129 := zb BK129 hb
      replace BK135 := zb BK135 hb
      replace HB := zE (zs2 HB GE129 GE135) hb
      (try clear hb)
      (try clear hb2)
      (try clear hk)
      (try clear hi)
      refine hK.out _ _ ⟨zc0 BK129, zc1 BK129, zc2 BK129, zc3 BK129, zc4 BK129⟩ (fun hHeld => ?_)
      clear hK K
      refine zN ?_
      refine zq HT_ 6 ?_
      exact norm_ (by simp only [putAll, Act.put, List.setIfInBounds_toArray, List.set_cons_zero, List.set_cons_succ]) (hCont (gb135) _ ⟨hHeld, (by (with_reducible repeat (first | apply Kd.R_alloc | apply Kd.R_drewN | apply Kd.R_drew)); exact Kd.R_mono HO_4.out (fun _ hk => hk.2)), (zh BK129), (zh BK135), GW135.out, GE135.out, NB129_135.out, NB135_129.out, (zs2 HB GE129 GE135)⟩)
    rintro gb135 w21 ⟨hS_, h0_, h1_, h2_, h3_, h4_, h5_, h6_, h7_⟩
    have BK135 : Aside0 (w21.heap[gb135]? = some (.cells #[.int .i64 0, .int .i64 0] 46 (0, 0))) := ⟨h2_⟩
    have GW135 : Aside0 (w.heap.size ≤ gb135) := ⟨h3_⟩
    have GE135 : Aside0 (w.heap.size ≤ gb135) := ⟨h4_⟩
    have NB129_135 : Aside0 (gb129 ≠ gb135) := ⟨h5_⟩
    have NB135_129 : Aside0 (gb135 ≠ gb129) := ⟨h6_⟩
    replace HO_4 : Aside0 (Kd.R k46 46 w21 w.heap.size (fun k_ => k_ ≠ gb135) u4 x4_1) := ⟨h0_⟩
    replace BK129 : Aside0 (w21.heap[gb129]? = some (.cells #[.int .i64 a0_0, .int .i64 a0_1, .slice A0_2 l0_2.length c0_2, .int .i64 a0_3, .int .i64 a0_4] 34 (0, 0))) := ⟨h1_⟩
    replace HB : Aside0 (Below w.heap.size w w21) := ⟨h7_⟩
    clear h0_ h1_ h2_ h3_ h4_ h5_ h6_ h7_
    have hHeld : w21.cell? ⟨gb129, 0, none⟩ = some (.int .i64 a0_0) ∧ w21.cell? ⟨gb129, 1, none⟩ = some (.int .i64 a0_1) ∧ w21.cell? ⟨gb129, 2, none⟩ = some (.slice A0_2 l0_2.length c0_2) ∧ w21.cell? ⟨gb129, 3, none⟩ = some (.int .i64 a0_3) ∧ w21.cell? ⟨gb129, 4, none⟩ = some (.int .i64 a0_4) := hS_
    refine norm_ (a' := ?_) ?_ ?_
    rotate_left
    ·simp only [putAll, Act.put, List.setIfInBounds_toArray, List.set_cons_zero, List.set_cons_succ]
     rfl
    refine zo HT_ 8 (fun K hK => ?_)
    have hs22 : w21.cell? ⟨gb135, 0, none⟩ = some (.int .i64 0) := zc0 BK135
    have hfs22 := zf BK135 0
    have hns22_0 := NB129_135.out
    have hms22_0 := NB135_129.out
    have hs23 : w21.cell? ⟨gb135, 1, none⟩ = some (.int .i64 0) := zc1 BK135
    have hfs23 := zf BK135 1
    have hns23_0 := NB129_135.out
    have hms23_0 := NB135_129.out
    refine skip_ (w1 := ?_) (by rfl) rfl ?_ ?_
    rotate_left
    ·go_simp
     rfl
    refine hK.out _ _ (zcf hHeld NB129_135) (fun hHeld => ?_)
    clear hK K
    refine done_ (done_of HT_.out (by kernel_rfl)) ?_
    try go_wp2
    obtain ⟨w24, e_⟩ : ∃ x, x = ((w21.setCell ⟨gb135, 0, none⟩ (.int .i64 t133)).setCell ⟨gb135, 1, none⟩ (.int .i64 t134)) := ⟨_, rfl⟩
    have n0_ : Aside0 (Kd.R k46 46 w24 w.heap.size (fun k_ => k_ ≠ gb135) u4 x4_1) := by rw [e_]; exact ⟨by (with_reducible repeat (first | apply Kd.R_alloc | apply Kd.R_drewN | apply Kd.R_drew)); exact Kd.R_mono (Kd.R_far (p := ⟨gb135, 1, none⟩) (Kd.R_far (p := ⟨gb135, 0, none⟩) (Kd.R_mono HO_4.out (fun k_ hk => (⟨hk, hk⟩ : _ ∧ k_ ≠ gb135))) (fun _ hk => hk.2) (.int .i64 t133)) (fun _ hk => hk.2) (.int .i64 t134)) (fun _ hk => hk.1)⟩
    have n1_ : Aside0 (w24.heap[gb129]? = some (.cells #[.int .i64 a0_0, .int .i64 a0_1, .slice A0_2 l0_2.length c0_2, .int .i64 a0_3, .int .i64 a0_4] 34 (0, 0))) := by rw [e_]; exact ⟨zpf BK129 NB129_135⟩
    have n2_ : Aside0 (w24.heap[gb135]? = some (.cells #[.int .i64 t133, .int .i64 t134] 46 (0, 0))) := by rw [e_]; exact ⟨zpb BK135⟩
    have n3_ : Aside0 (Below w.heap.size w w24) := by rw [e_]; exact ⟨zs2 HB GE129 GE135⟩
    (try clear HO_4)
    (try clear BK129)
    (try clear BK135)
    (try clear HB)
    rw [← e_]; clear e_
    have HO_4 := n0_
    have BK129 := n1_
    have BK135 := n2_
    have HB := n3_
    clear n0_ n1_ n2_ n3_
    replace HO_4 := zA (Kd.R_drew HO_4.out)
    replace BK129 := zA (blk_drew BK129.out)
    replace BK135 := zA (blk_drew BK135.out)
    replace HB := zA (below_drew1 HB.out)
    obtain ⟨Ao26, co26, eo26⟩ := Kd.R_slice HO_4.out
    (first | subst eo26 | (injection eo26 with f1_ f2_ f3_; have f4_ := f1_.symm; have f5_ := f3_.symm; clear f1_ f2_ f3_; subst f4_; subst f5_))
    have p136 : 0 ≤ ((ji10) : Int) := za
    have q136 : (ji10) < (x4_1.length : Int) := za
    obtain ⟨ad136, e136, hx136_0, hx136_1⟩ := at_T46 (Kd.R_reads' HO_4.out).2.2 (ji10) p136 q136
    cases e136
    replace p136 := eq_true p136
    replace q136 := eq_true q136
    refine start_ (n := 15) (S := fun w' => w'.cell? ⟨gb135, 0, none⟩ = some (.int .i64 t133) ∧ w'.cell? ⟨gb135, 1, none⟩ = some (.int .i64 t134) ∧ w'.cell? ⟨gb129, 0, none⟩ = some (.int .i64 a0_0) ∧ w'.cell? ⟨gb129, 1, none⟩ = some (.int .i64 a0_1) ∧ w'.cell? ⟨gb129, 2, none⟩ = some (.slice A0_2 l0_2.length c0_2) ∧ w'.cell? ⟨gb129, 3, none⟩ = some (.int .i64 a0_3) ∧ w'.cell? ⟨gb129, 4, none⟩ = some (.int .i64 a0_4) ∧ w'.cell? (ad136.add (((ji10)).toNat * 2)) = some (.int .i64 ((rd_T46 x4_1 (ji10)).f0)) ∧ w'.cell? ⟨(ad136.add (((ji10)).toNat * 2)).block, (ad136.add (((ji10)).toNat * 2)).off + 1, none⟩ = some (.int .i64 ((rd_T46 x4_1 (ji10)).f1))) (ds := [14]) #[F,F,F,F,F,F,F,F,F,F,F,F,F,F,F] (by kernel_rfl) rfl rfl ⟨zc0 BK135, zc1 BK135, zc0 BK129, zc1 BK129, zc2 BK129, zc3 BK129, zc4 BK129, hx136_0, hx136_1⟩ (fun hHeld => ?_); refine with_tabW spec_l24Spans.tab8 spec_l24Spans.bits8 (fun HT_ HW_ => ?_)
    generalize w24.drew = w25 at HO_4 BK129 BK135 HB hx136_0 hx136_1 hHeld ⊢
    refine zq HT_ 0 ?_
    refine zq HT_ 2 ?_
    refine zq HT_ 3 ?_
    refine zq HT_ 4 ?_
    refine zq HT_ 5 ?_
    refine zq HT_ 6 ?_
    refine zq HT_ 8 ?_
    refine zq HT_ 9 ?_
    refine zk9 HT_ HW_ hHeld 1 ?_
    refine zk9 HT_ HW_ hHeld 7 ?_
    refine zk9 HT_ HW_ hHeld 10 ?_
    refine zq HT_ 11 ?_
    refine zo HT_ 12 (fun K hK => ?_)
    refine goes_ Try.func54 (by kernel_rfl) rfl #[.int .i64 t133, .int .i64 (wrap64 (((rd_T46 x4_1 (ji10)).f0) + a0_0))] (by rfl) rfl rfl (by (try simp only [List.map_toArray, List.map_cons, List.map_nil]); first | done | (simp only [hji10]; rfl) | rfl | (simp only [List.length_drop, List.length_take]; rfl)) ?_
    with_reducible refine (spec_l21Max.calls t133 (wrap64 (((rd_T46 x4_1 (ji10)).f0) + a0_0)) t137 _ A13.out).mono ?_
    rintro e w' ⟨rfl, ⟨nd, rfl⟩⟩
    refine ⟨_, rfl, ?_⟩
    refine hK.out _ _ ⟨zc0 BK135, zc1 BK135, zc0 BK129, zc1 BK129, zc2 BK129, zc3 BK129, zc4 BK129, hHeld.2.2.2.2.2.2.2⟩ (fun hHeld => ?_)
    clear hK K
    refine zN ?_
    refine zq HT_ 13 ?_
    refine zO HT_ 14 (fun K hK => ?_)
    have hs27 : w25.cell? ⟨gb135, 0, none⟩ = some (.int .i64 t133) := zc0 BK135
    have hfs27 := zf BK135 0
    have hns27_0 := NB129_135.out
    have hms27_0 := NB135_129.out
    refine skip_ (w1 := ?_) (by rfl) rfl ?_ ?_
    rotate_left
    ·go_simp
     rfl
    refine hK.out _ _ ?_
    clear hK K
    refine done_ (done_of HT_.out (by kernel_rfl)) ?_
    try go_wp2
    have n0_ : Aside0 (Kd.R k46 46 (w25.setCell ⟨gb135, 0, none⟩ (.int .i64 t137)) w.heap.size (fun k_ => k_ ≠ gb135) (.slice (some ad136) x4_1.length co26) x4_1) := ⟨by (with_reducible repeat (first | apply Kd.R_alloc | apply Kd.R_drewN | apply Kd.R_drew)); exact Kd.R_mono (Kd.R_far (p := ⟨gb135, 0, none⟩) (Kd.R_mono HO_4.out (fun k_ hk => (⟨hk, hk⟩ : _ ∧ k_ ≠ gb135))) (fun _ hk => hk.2) (.int .i64 t137)) (fun _ hk => hk.1)⟩
    have n1_ : Aside0 ((w25.setCell ⟨gb135, 0, none⟩ (.int .i64 t137)).heap[gb129]? = some (.cells #[.int .i64 a0_0, .int .i64 a0_1, .slice A0_2 l0_2.length c0_2, .int .i64 a0_3, .int .i64 a0_4] 34 (0, 0))) := ⟨zpf BK129 NB129_135⟩
    have n2_ : Aside0 ((w25.setCell ⟨gb135, 0, none⟩ (.int .i64 t137)).heap[gb135]? = some (.cells #[.int .i64 t137, .int .i64 t134] 46 (0, 0))) := ⟨zpb BK135⟩
    have n3_ : Aside0 (Below w.heap.size w (w25.setCell ⟨gb135, 0, none⟩ (.int .i64 t137))) := ⟨zs2 HB GE129 GE135⟩
    (try clear HO_4)
    (try clear BK129)
    (try clear BK135)
    (try clear HB)
    generalize (w25.setCell ⟨gb135, 0, none⟩ (.int .i64 t137)) = w28 at n0_ n1_ n2_ n3_ ⊢
    have HO_4 := n0_
    have BK129 := n1_
    have BK135 := n2_
    have HB := n3_
    clear n0_ n1_ n2_ n3_
    (try (rw [drewN_self w28]; generalize hq_ : World.drewN w28 _ = w28; replace HO_4 : Aside0 (Kd.R k46 46 w28 w.heap.size (fun k_ => k_ ≠ gb135) (.slice (some ad136) x4_1.length co26) x4_1) := ⟨by rw [← hq_]; exact (zr HO_4)⟩; replace BK129 : Aside0 (w28.heap[gb129]? = some (.cells #[.int .i64 a0_0, .int .i64 a0_1, .slice A0_2 l0_2.length c0_2, .int .i64 a0_3, .int .i64 a0_4] 34 (0, 0))) := ⟨by rw [← hq_]; exact (zh BK129)⟩; replace BK135 : Aside0 (w28.heap[gb135]? = some (.cells #[.int .i64 t137, .int .i64 t134] 46 (0, 0))) := ⟨by rw [← hq_]; exact (zh BK135)⟩; replace HB : Aside0 (Below w.heap.size w w28) := ⟨by rw [← hq_]; exact (zs2 HB GE129 GE135)⟩; clear hq_))
    replace HO_4 := zA (Kd.R_drew HO_4.out)
    replace BK129 := zA (blk_drew BK129.out)
    replace BK135 := zA (blk_drew BK135.out)
    replace HB := zA (below_drew1 HB.out)
    have p138 : 0 ≤ ((ji10) : Int) := za
    have q138 : (ji10) < (x4_1.length : Int) := za
    obtain ⟨ad138, e138, hx138_0, hx138_1⟩ := at_T46 (Kd.R_reads' HO_4.out).2.2 (ji10) p138 q138
    obtain rfl : ad136 = ad138 := (by injection e138)
    replace p138 := eq_true p138
    replace q138 := eq_true q138
    refine start_ (n := 16) (S := fun w' => w'.cell? ⟨gb135, 0, none⟩ = some (.int .i64 t137) ∧ w'.cell? ⟨gb135, 1, none⟩ = some (.int .i64 t134) ∧ w'.cell? ⟨gb129, 0, none⟩ = some (.int .i64 a0_0) ∧ w'.cell? ⟨gb129, 1, none⟩ = some (.int .i64 a0_1) ∧ w'.cell? ⟨gb129, 2, none⟩ = some (.slice A0_2 l0_2.length c0_2) ∧ w'.cell? ⟨gb129, 3, none⟩ = some (.int .i64 a0_3) ∧ w'.cell? ⟨gb129, 4, none⟩ = some (.int .i64 a0_4) ∧ w'.cell? (ad136.add (((ji10)).toNat * 2)) = some (.int .i64 ((rd_T46 x4_1 (ji10)).f0)) ∧ w'.cell? ⟨(ad136.add (((ji10)).toNat * 2)).block, (ad136.add (((ji10)).toNat * 2)).off + 1, none⟩ = some (.int .i64 ((rd_T46 x4_1 (ji10)).f1))) (ds := [15]) #[F,F,F,F,F,F,F,F,F,F,F,F,F,F,F,F] (by kernel_rfl) rfl rfl ⟨zc0 BK135, zc1 BK135, zc0 BK129, zc1 BK129, zc2 BK129, zc3 BK129, zc4 BK129, hx138_0, hx138_1⟩ (fun hHeld => ?_); refine with_tabW spec_l24Spans.tab9 spec_l24Spans.bits9 (fun HT_ HW_ => ?_)
    generalize w28.drew = w29 at HO_4 BK129 BK135 HB hx138_0 hx138_1 hHeld ⊢
    refine zq HT_ 0 ?_
    refine zq HT_ 2 ?_
    refine zq HT_ 3 ?_
    refine zq HT_ 4 ?_
    refine zq HT_ 5 ?_
    refine zq HT_ 6 ?_
    refine zq HT_ 9 ?_
    refine zq HT_ 10 ?_
    refine zk9 HT_ HW_ hHeld 1 ?_
    refine zk9 HT_ HW_ hHeld 7 ?_
    refine zk9 HT_ HW_ hHeld 8 ?_
    refine zo HT_ 11 (fun K hK => ?_)
    refine goes_ Try.func82 (by kernel_rfl) rfl #[.agg #[.int .i64 a0_0, .int .i64 a0_1, .slice A0_2 l0_2.length c0_2, .int .i64 a0_3, .int .i64 a0_4], .int .i64 ji10] (by rfl) rfl rfl (by (try simp only [List.map_toArray, List.map_cons, List.map_nil]); first | done | (simp only [hji10]; rfl) | rfl | (simp only [List.length_drop, List.length_take]; rfl)) ?_
    with_reducible refine (spec_l23Most.calls a0_0 a0_1 _ _ l0_2 a0_3 a0_4 ji10 t139 _ ?side1 ?side2 A14.out).mono ?_
    (case side1 => exact zC HR0_2 HB)
    (case side2 => exact HC0_2.out)
    rintro e w30 ⟨rfl, hb⟩
    have HS7_ := (hb.cell (World.block_lt_of_cell? _ _ (hHeld.2.2.2.2.2.2.2.1))).trans (hHeld.2.2.2.2.2.2.2.1)
    have HS8_ := (hb.cell (World.block_lt_of_cell? _ _ (hHeld.2.2.2.2.2.2.2.2))).trans (hHeld.2.2.2.2.2.2.2.2)
    refine ⟨_, rfl, ?_⟩
    replace HO_4 := zA (Kd.R_below (zr HO_4) hb)
    replace BK129 := zb BK129 hb
    replace BK135 := zb BK135 hb
    replace HB := zE (zs2 HB GE129 GE135) hb
    (try clear hb)
    (try clear hb2)
    (try clear hk)
    (try clear hi)
    refine hK.out _ _ ⟨zc0 BK135, zc1 BK135, zc0 BK129, zc1 BK129, zc2 BK129, zc3 BK129, zc4 BK129, HS7_, HS8_⟩ (fun hHeld => ?_)
    clear hK K
    refine zN ?_
    refine zq HT_ 12 ?_
    refine zo HT_ 13 (fun K hK => ?_)
    refine goes_ Try.func53 (by kernel_rfl) rfl #[.int .i64 t134, .int .i64 (wrap64 (((rd_T46 x4_1 (ji10)).f1) + t139))] (by rfl) rfl rfl (by (try simp only [List.map_toArray, List.map_cons, List.map_nil]); first | done | (simp only [hji10]; rfl) | rfl | (simp only [List.length_drop, List.length_take]; rfl)) ?_
    with_reducible refine (spec_l21Min.calls t134 (wrap64 (((rd_T46 x4_1 (ji10)).f1) + t139)) t140 _ A15.out).mono ?_
    rintro e w' ⟨rfl, ⟨nd, rfl⟩⟩
    refine ⟨_, rfl, ?_⟩
    refine hK.out _ _ ⟨zc0 BK135, zc1 BK135, zc0 BK129, zc1 BK129, zc2 BK129, zc3 BK129, zc4 BK129, hHeld.2.2.2.2.2.2.2⟩ (fun hHeld => ?_)
    clear hK K
    refine zN ?_
    refine zq HT_ 14 ?_
    refine zO HT_ 15 (fun K hK => ?_)
    have hs31 : w30.cell? ⟨gb135, 1, none⟩ = some (.int .i64 t134) := zc1 BK135
    have hfs31 := zf BK135 1
    have hns31_0 := NB129_135.out
    have hms31_0 := NB135_129.out
    refine skip_ (w1 := ?_) (by rfl) rfl ?_ ?_
    rotate_left
    ·go_simp
     rfl
    refine hK.out _ _ ?_
    clear hK K
    refine done_ (done_of HT_.out (by kernel_rfl)) ?_
    have hnb32 := NB135_129.out
    have hnc32 := NB129_135.out
    obtain ⟨hcz33_0, hcz33_1⟩ := zd2 BK135
    obtain ⟨hfz33_0, hfz33_1⟩ := zn2 BK135
    try go_wp2_with (first | ((with_reducible refine gate_dst (N := 61) rfl ?_); refine Kd.R_lit k46 _ 46 ?hg (N := 61) ?hd (xs := ([] : List (S46))) (inner := []) (ok := fun _ => True) (okp := fun _ => True) ?hr ?hp (fun _ hk => hk) trivial (Below.refl _ _) (Nat.le_refl _) (by simp) ?_; (case hd => rfl); (case hg => rfl); (case hr => first | (go_simp; done) | (go_simp; rfl)); (case hp => exact (Reps.none _ _)); intro v142 w34 ho35 hb hg_ hnew_; clear hg_ hnew_; (first | rw [← Ny141.out] at ho35 | (simp only [Int.reduceToNat] at ho35; rw [← Ny141.out] at ho35)); have HO143 := zA (Kd.R_lower (Kd.R_newB (Kd.R_new' ho35 (Kd.R_lt (by (with_reducible repeat (first | apply Kd.R_alloc | apply Kd.R_drewN | apply Kd.R_drew)); exact (Kd.R_mono (Kd.R_far (p := ⟨gb135, 1, none⟩) (Kd.R_mono HO_4.out (fun k_ hk => (⟨hk, hk⟩ : _ ∧ k_ ≠ gb135))) (fun _ hk => hk.2) (.int .i64 t140)) (fun _ h_ => h_.1))))) (g := gb135) (o := .cells #[.int .i64 t137, .int .i64 t140] 46 (0, 0)) (zpb BK135)) (below_size (zs2 HB GE129 GE135))); replace HO_4 := zA (Kd.R_elder' (by (with_reducible repeat (first | apply Kd.R_alloc | apply Kd.R_drewN | apply Kd.R_drew)); exact (Kd.R_mono (Kd.R_far (p := ⟨gb135, 1, none⟩) (Kd.R_mono HO_4.out (fun k_ hk => (⟨hk, hk⟩ : _ ∧ k_ ≠ gb135))) (fun _ hk => hk.2) (.int .i64 t140)) (fun _ h_ => h_.1))) (Kd.R_base ho35) hb); replace BK129 := zA (blk_below (g := gb129) (o := .cells #[.int .i64 a0_0, .int .i64 a0_1, .slice A0_2 l0_2.length c0_2, .int .i64 a0_3, .int .i64 a0_4] 34 (0, 0)) (zpf BK129 NB129_135) hb); replace BK135 := zA (blk_below (g := gb135) (o := .cells #[.int .i64 t137, .int .i64 t140] 46 (0, 0)) (zpb BK135) hb); replace HB := zE (zs2 HB GE129 GE135) hb; clear hb ho35))
    go_ret2
    exact ⟨_, by first | rfl | (simp [errW_none, errW_some] <;> rfl) | (simp only [← hji10]; first | rfl | (simp [errW_none, errW_some] <;> rfl)) | (simp [*, errW_none, errW_some] <;> rfl), by (with_reducible repeat (first | apply Kd.R_alloc | apply Kd.R_drewN | apply Kd.R_drew)); exact Kd.R_mono HO143.out (fun _ hk => trivial), zs2 HB GE129 GE135⟩
   rw [if_neg c16] at H
   have c16b0 : decide (t140 < t137) = false := decide_eq_false c16
   clear c16
   by_cases c36 : x4_1.length < 8796093022208
   rotate_left
   ·rw [if_neg c36] at H
    exact absurd H (by simp)
   rw [if_pos c36] at H
   have LMc36 := zA c36
   clear c36
   obtain ⟨y144, hy144⟩ : ∃ y_ : List (S46), y_ = (x4_1 ++ [(⟨t137, t140⟩ : S46)]) := ⟨_, rfl⟩
   replace H : (spec_l24Spans.l0 k1 y144 (l0_2.length : Int) (wrap64 (x6_1 + 1)) a0_0 a0_1 l0_2 a0_3 a0_4) = some (r1, r2) := by first | (rw [hy144]; with_reducible exact H) | (have H2_ := (Option.bind_some _ _).symm.trans H; rw [hy144]; with_reducible exact H2_) | (have H2_ := (Option.bind_some _ _).symm.trans H; with_reducible exact H2_) | with_reducible exact H | (rw [hy144]; exact H) | exact H
   have Ny144 := zA hy144
   clear hy144
   have H' := zA H
   clear H
   try go_wp2
   replace HO_4 := zA (Kd.R_drew HO_4.out)
   replace BK129 := zA (blk_drew BK129.out)
   replace HB := zA (below_drew1 HB.out)
   refine start_ (n := 9) (S := fun w' => w'.cell? ⟨gb129, 0, none⟩ = some (.int .i64 a0_0) ∧ w'.cell? ⟨gb129, 1, none⟩ = some (.int .i64 a0_1) ∧ w'.cell? ⟨gb129, 2, none⟩ = some (.slice A0_2 l0_2.length c0_2) ∧ w'.cell? ⟨gb129, 3, none⟩ = some (.int .i64 a0_3) ∧ w'.cell? ⟨gb129, 4, none⟩ = some (.int .i64 a0_4)) (ds := []) #[F,F,F,F,F,F,F,F,F] (by kernel_rfl) rfl rfl ⟨zc0 BK129, zc1 BK129, zc2 BK129, zc3 BK129, zc4 BK129⟩ (fun hHeld => ?_); refine with_tabW spec_l24Spans.tab6 spec_l24Spans.bits6 (fun HT_ HW_ => ?_)
   generalize wr.drew = w37 at HO_4 BK129 HB hHeld ⊢
   refine zq HT_ 1 ?_
   refine zq HT_ 4 ?_
   refine zk5 HT_ HW_ hHeld 0 ?_
   refine zk5 HT_ HW_ hHeld 3 ?_
   refine join_ (σ := Nat) 1 #[T,T,T,T,T,T,T,T,F] (fun s_ => [(20, .int .i64 t133), (23, .int .i64 t134), (7, .pointer (some ⟨s_, 0, none⟩)), (24, .agg #[.int .i64 t133, .int .i64 t134])]) (fun s_ w' => (w'.cell? ⟨gb129, 0, none⟩ = some (.int .i64 a0_0) ∧ w'.cell? ⟨gb129, 1, none⟩ = some (.int .i64 a0_1) ∧ w'.cell? ⟨gb129, 2, none⟩ = some (.slice A0_2 l0_2.length c0_2) ∧ w'.cell? ⟨gb129, 3, none⟩ = some (.int .i64 a0_3) ∧ w'.cell? ⟨gb129, 4, none⟩ = some (.int .i64 a0_4)) ∧ (Kd.R k46 46 w' w.heap.size (fun k_ => k_ ≠ s_) u4 x4_1) ∧ (w'.heap[gb129]? = some (.cells #[.int .i64 a0_0, .int .i64 a0_1, .slice A0_2 l0_2.length c0_2, .int .i64 a0_3, .int .i64 a0_4] 34 (0, 0))) ∧ (w'.heap[s_]? = some (.cells #[.int .i64 0, .int .i64 0] 46 (0, 0))) ∧ (w.heap.size ≤ s_) ∧ (w.heap.size ≤ s_) ∧ (gb129 ≠ s_) ∧ (s_ ≠ gb129) ∧ (Below w.heap.size w w')) ?_ ?_
   rotate_left
   ·intro hCont
    refine two_ (i := 2) (j := 7) (Ni := some 20) (Nj := some 7) #[T,T,T,T,T,F,F,F,F] #[T,T,F,T,T,F,F,T,F] rfl rfl rfl rfl (two_of HT_.out (by kernel_rfl)) (by decide) (by decide) (fun K hK => ?_) (fun K hK => ?_)
    ·skip
     refine zgo Try.func80 #[.agg #[.int .i64 a0_0, .int .i64 a0_1, .slice A0_2 l0_2.length c0_2, .int .i64 a0_3, .int .i64 a0_4], .int .i64 x6_1] ?_
     with_reducible refine (spec_l23Low.calls a0_0 a0_1 _ _ l0_2 a0_3 a0_4 x6_1 t133 _ ?side1 ?side2 A7.out).mono ?_
     (case side1 => exact zC HR0_2 HB)
     (case side2 => exact HC0_2.out)
     rintro e w38 ⟨rfl, hb⟩
     refine ⟨_, rfl, ?_⟩
     replace HO_4 := zA (Kd.R_below (zr HO_4) hb)
     replace BK129 := zb BK129 hb
     replace HB := zE (zs1 HB GE129) hb
     (try clear hb)
     (try clear hb2)
     (try clear hk)
     (try clear hi)
     refine hK.out _ _ ⟨zc0 BK129, zc1 BK129, zc2 BK129, zc3 BK129, zc4 BK129⟩ (fun hHeld => ?_)
     clear hK K
     refine zN ?_
     refine two_ (i := 5) (j := 7) (Ni := some 23) (Nj := some 7) #[T,T,T,T,T,T,F,F,F] #[T,T,T,T,T,F,F,T,F] rfl rfl rfl rfl (two_of HT_.out (by kernel_rfl)) (by decide) (by decide) (fun K hK => ?_) (fun K hK => ?_)
     ·skip
      refine zgo Try.func81 #[.agg #[.int .i64 a0_0, .int .i64 a0_1, .slice A0_2 l0_2.length c0_2, .int .i64 a0_3, .int .i64 a0_4], .int .i64 x6_1] ?_
      with_reducible refine (spec_l23High.calls a0_0 a0_1 _ _ l0_2 a0_3 a0_4 x6_1 t134 _ ?side1 ?side2 A8.out).mono ?_
      (case side1 => exact zC HR0_2 HB)
      (case side2 => exact HC0_2.out)
      rintro e w39 ⟨rfl, hb⟩
      refine ⟨_, rfl, ?_⟩
      replace HO_4 := zA (Kd.R_below (zr HO_4) hb)
      replace BK129 := zb BK129 hb
      replace HB := zE (zs1 HB GE129) hb
      (try clear hb)
      (try clear hb2)
      (try clear hk)
      (try clear hi)
      refine hK.out _ _ ⟨zc0 BK129, zc1 BK129, zc2 BK129, zc3 BK129, zc4 BK129⟩ (fun hHeld => ?_)
      clear hK K
      refine zN ?_
      refine zq HT_ 6 ?_
      refine zo HT_ 7 (fun K hK => ?_)
      refine box_step (by rfl) (N := 7) (by rfl) (cs := #[.int .i64 0, .int .i64 0]) (t := 46) zg ?_
      intro gb135 hg w40 hbox hb
      have BK135 := zA hbox
      have GW135 := zgs hg (zs1 HB GE129)
      have GE135 := zgs hg (zs1 HB GE129)
      have NB129_135 := zne hg BK129
      have NB135_129 := znf hg BK129
      replace HO_4 := zA (Kd.R_below (Kd.R_elderB (zr HO_4) gb135 (Nat.le_of_eq hg.symm)) hb)
      replace BK129 := zb BK129 hb
      replace HB := zE (zs1 HB GE129) hb
      clear hb hbox hg
      refine hK.out _ _ ⟨zc0 BK129, zc1 BK129, zc2 BK129, zc3 BK129, zc4 BK129⟩ (fun hHeld => ?_)
      clear hK K
      refine zN ?_
      exact norm_ (by simp only [putAll, Act.put, List.setIfInBounds_toArray, List.set_cons_zero, List.set_cons_succ]) (hCont (gb135) _ ⟨hHeld, (by (with_reducible repeat (first | apply Kd.R_alloc | apply Kd.R_drewN | apply Kd.R_drew)); exact Kd.R_mono HO_4.out (fun _ hk => hk.2)), (zh BK129), (zh BK135), GW135.out, GE135.out, NB129_135.out, NB135_129.out, (zs2 HB GE129 GE135)⟩)
     ·skip
      refine box_step (by rfl) (N := 7) (by rfl) (cs := #[.int .i64 0, .int .i64 0]) (t := 46) zg ?_
      intro gb135 hg w39 hbox hb
      have BK135 := zA hbox
      have GW135 := zgs hg (zs1 HB GE129)
      have GE135 := zgs hg (zs1 HB GE129)
      have NB129_135 := zne hg BK129
      have NB135_129 := znf hg BK129
      replace HO_4 := zA (Kd.R_below (Kd.R_elderB (zr HO_4) gb135 (Nat.le_of_eq hg.symm)) hb)
      replace BK129 := zb BK129 hb
      replace HB := zE (zs1 HB GE129) hb
      clear hb hbox hg
      refine hK.out _ _ ⟨zc0 BK129, zc1 BK129, zc2 BK129, zc3 BK129, zc4 BK129⟩ (fun hHeld => ?_)
      clear hK K
      refine zN ?_
      refine zo HT_ 5 (fun K hK => ?_)
      refine zgo Try.func81 #[.agg #[.int .i64 a0_0, .int .i64 a0_1, .slice A0_2 l0_2.length c0_2, .int .i64 a0_3, .int .i64 a0_4], .int .i64 x6_1] ?_
      with_reducible refine (spec_l23High.calls a0_0 a0_1 _ _ l0_2 a0_3 a0_4 x6_1 t134 _ ?side1 ?side2 A8.out).mono ?_
      (case side1 => exact zC HR0_2 HB)
      (case side2 => exact HC0_2.out)
      rintro e w40 ⟨rfl, hb⟩
      refine ⟨_, rfl, ?_⟩
      replace HO_4 := zA (Kd.R_below (zr HO_4) hb)
      replace BK129 := zb BK129 hb
      replace BK135 := zb BK135 hb
      replace HB := zE (zs2 HB GE129 GE135) hb
      (try clear hb)
      (try clear hb2)
      (try clear hk)
      (try clear hi)
      refine hK.out _ _ ⟨zc0 BK129, zc1 BK129, zc2 BK129, zc3 BK129, zc4 BK129⟩ (fun hHeld => ?_)
      clear hK K
      refine zN ?_
      refine zq HT_ 6 ?_
      exact norm_ (by simp only [putAll, Act.put, List.setIfInBounds_toArray, List.set_cons_zero, List.set_cons_succ]) (hCont (gb135) _ ⟨hHeld, (by (with_reducible repeat (first | apply Kd.R_alloc | apply Kd.R_drewN | apply Kd.R_drew)); exact Kd.R_mono HO_4.out (fun _ hk => hk.2)), (zh BK129), (zh BK135), GW135.out, GE135.out, NB129_135.out, NB135_129.out, (zs2 HB GE129 GE135)⟩)
    ·skip
     refine box_step (by rfl) (N := 7) (by rfl) (cs := #[.int .i64 0, .int .i64 0]) (t := 46) zg ?_
     intro gb135 hg w38 hbox hb
     have BK135 := zA hbox
     have GW135 := zgs hg (zs1 HB GE129)
     have GE135 := zgs hg (zs1 HB GE129)
     have NB129_135 := zne hg BK129
     have NB135_129 := znf hg BK129
     replace HO_4 := zA (Kd.R_below (Kd.R_elderB (zr HO_4) gb135 (Nat.le_of_eq hg.symm)) hb)
     replace BK129 := zb BK129 hb
     replace HB := zE (zs1 HB GE129) hb
     clear hb hbox hg
     refine hK.out _ _ ⟨zc0 BK129, zc1 BK129, zc2 BK129, zc3 BK129, zc4 BK129⟩ (fun hHeld => ?_)
     clear hK K
     refine zN ?_
     refine zo HT_ 2 (fun K hK => ?_)
     refine zgo Try.func80 #[.agg #[.int .i64 a0_0, .int .i64 a0_1, .slice A0_2 l0_2.length c0_2, .int .i64 a0_3, .int .i64 a0_4], .int .i64 x6_1] ?_
     with_reducible refine (spec_l23Low.calls a0_0 a0_1 _ _ l0_2 a0_3 a0_4 x6_1 t133 _ ?side1 ?side2 A7.out).mono ?_
     (case side1 => exact zC HR0_2 HB)
     (case side2 => exact HC0_2.out)
     rintro e w39 ⟨rfl, hb⟩
     refine ⟨_, rfl, ?_⟩
     replace HO_4 := zA (Kd.R_below (zr HO_4) hb)
     replace BK129 := zb BK129 hb
     replace BK135 := zb BK135 hb
     replace HB := zE (zs2 HB GE129 GE135) hb
     (try clear hb)
     (try clear hb2)
     (try clear hk)
     (try clear hi)
     refine hK.out _ _ ⟨zc0 BK129, zc1 BK129, zc2 BK129, zc3 BK129, zc4 BK129⟩ (fun hHeld => ?_)
     clear hK K
     refine zN ?_
     refine zo HT_ 5 (fun K hK => ?_)
     refine zgo Try.func81 #[.agg #[.int .i64 a0_0, .int .i64 a0_1, .slice A0_2 l0_2.length c0_2, .int .i64 a0_3, .int .i64 a0_4], .int .i64 x6_1] ?_
     with_reducible refine (spec_l23High.calls a0_0 a0_1 _ _ l0_2 a0_3 a0_4 x6_1 t134 _ ?side1 ?side2 A8.out).mono ?_
     (case side1 => exact zC HR0_2 HB)
     (case side2 => exact HC0_2.out)
     rintro e w40 ⟨rfl, hb⟩
     refine ⟨_, rfl, ?_⟩
     replace HO_4 := zA (Kd.R_below (zr HO_4) hb)
     replace BK129 := zb BK129 hb
     replace BK135 := zb BK135 hb
     replace HB := zE (zs2 HB GE129 GE135) hb
     (try clear hb)
     (try clear hb2)
     (try clear hk)
     (try clear hi)
     refine hK.out _ _ ⟨zc0 BK129, zc1 BK129, zc2 BK129, zc3 BK129, zc4 BK129⟩ (fun hHeld => ?_)
     clear hK K
     refine zN ?_
     refine zq HT_ 6 ?_
     exact norm_ (by simp only [putAll, Act.put, List.setIfInBounds_toArray, List.set_cons_zero, List.set_cons_succ]) (hCont (gb135) _ ⟨hHeld, (by (with_reducible repeat (first | apply Kd.R_alloc | apply Kd.R_drewN | apply Kd.R_drew)); exact Kd.R_mono HO_4.out (fun _ hk => hk.2)), (zh BK129), (zh BK135), GW135.out, GE135.out, NB129_135.out, NB135_129.out, (zs2 HB GE129 GE135)⟩)
   rintro gb135 w41 ⟨hS_, h0_, h1_, h2_, h3_, h4_, h5_, h6_, h7_⟩
   have BK135 : Aside0 (w41.heap[gb135]? = some (.cells #[.int .i64 0, .int .i64 0] 46 (0, 0))) := ⟨h2_⟩
   have GW135 : Aside0 (w.heap.size ≤ gb135) := ⟨h3_⟩
   have GE135 : Aside0 (w.heap.size ≤ gb135) := ⟨h4_⟩
   have NB129_135 : Aside0 (gb129 ≠ gb135) := ⟨h5_⟩
   have NB135_129 : Aside0 (gb135 ≠ gb129) := ⟨h6_⟩
   replace HO_4 : Aside0 (Kd.R k46 46 w41 w.heap.size (fun k_ => k_ ≠ gb135) u4 x4_1) := ⟨h0_⟩
   replace BK129 : Aside0 (w41.heap[gb129]? = some (.cells #[.int .i64 a0_0, .int .i64 a0_1, .slice A0_2 l0_2.length c0_2, .int .i64 a0_3, .int .i64 a0_4] 34 (0, 0))) := ⟨h1_⟩
   replace HB : Aside0 (Below w.heap.size w w41) := ⟨h7_⟩
   clear h0_ h1_ h2_ h3_ h4_ h5_ h6_ h7_
   have hHeld : w41.cell? ⟨gb129, 0, none⟩ = some (.int .i64 a0_0) ∧ w41.cell? ⟨gb129, 1, none⟩ = some (.int .i64 a0_1) ∧ w41.cell? ⟨gb129, 2, none⟩ = some (.slice A0_2 l0_2.length c0_2) ∧ w41.cell? ⟨gb129, 3, none⟩ = some (.int .i64 a0_3) ∧ w41.cell? ⟨gb129, 4, none⟩ = some (.int .i64 a0_4) := hS_
   refine norm_ (a' := ?_) ?_ ?_
   rotate_left
   ·simp only [putAll, Act.put, List.setIfInBounds_toArray, List.set_cons_zero, List.set_cons_succ]
    rfl
   refine zo HT_ 8 (fun K hK => ?_)
   have hs42 : w41.cell? ⟨gb135, 0, none⟩ = some (.int .i64 0) := zc0 BK135
   have hfs42 := zf BK135 0
   have hns42_0 := NB129_135.out
   have hms42_0 := NB135_129.out
   have hs43 : w41.cell? ⟨gb135, 1, none⟩ = some (.int .i64 0) := zc1 BK135
   have hfs43 := zf BK135 1
   have hns43_0 := NB129_135.out
   have hms43_0 := NB135_129.out
   refine skip_ (w1 := ?_) (by rfl) rfl ?_ ?_
   rotate_left
   ·go_simp
    rfl
   refine hK.out _ _ (zcf hHeld NB129_135) (fun hHeld => ?_)
   clear hK K
   refine done_ (done_of HT_.out (by kernel_rfl)) ?_
   try go_wp2
   obtain ⟨w44, e_⟩ : ∃ x, x = ((w41.setCell ⟨gb135, 0, none⟩ (.int .i64 t133)).setCell ⟨gb135, 1, none⟩ (.int .i64 t134)) := ⟨_, rfl⟩
   have n0_ : Aside0 (Kd.R k46 46 w44 w.heap.size (fun k_ => k_ ≠ gb135) u4 x4_1) := by rw [e_]; exact ⟨by (with_reducible repeat (first | apply Kd.R_alloc | apply Kd.R_drewN | apply Kd.R_drew)); exact Kd.R_mono (Kd.R_far (p := ⟨gb135, 1, none⟩) (Kd.R_far (p := ⟨gb135, 0, none⟩) (Kd.R_mono HO_4.out (fun k_ hk => (⟨hk, hk⟩ : _ ∧ k_ ≠ gb135))) (fun _ hk => hk.2) (.int .i64 t133)) (fun _ hk => hk.2) (.int .i64 t134)) (fun _ hk => hk.1)⟩
   have n1_ : Aside0 (w44.heap[gb129]? = some (.cells #[.int .i64 a0_0, .int .i64 a0_1, .slice A0_2 l0_2.length c0_2, .int .i64 a0_3, .int .i64 a0_4] 34 (0, 0))) := by rw [e_]; exact ⟨zpf BK129 NB129_135⟩
   have n2_ : Aside0 (w44.heap[gb135]? = some (.cells #[.int .i64 t133, .int .i64 t134] 46 (0, 0))) := by rw [e_]; exact ⟨zpb BK135⟩
   have n3_ : Aside0 (Below w.heap.size w w44) := by rw [e_]; exact ⟨zs2 HB GE129 GE135⟩
   (try clear HO_4)
   (try clear BK129)
   (try clear BK135)
   (try clear HB)
   rw [← e_]; clear e_
   have HO_4 := n0_
   have BK129 := n1_
   have BK135 := n2_
   have HB := n3_
   clear n0_ n1_ n2_ n3_
   replace HO_4 := zA (Kd.R_drew HO_4.out)
   replace BK129 := zA (blk_drew BK129.out)
   replace BK135 := zA (blk_drew BK135.out)
   replace HB := zA (below_drew1 HB.out)
   obtain ⟨Ao46, co46, eo46⟩ := Kd.R_slice HO_4.out
   (first | subst eo46 | (injection eo46 with f1_ f2_ f3_; have f4_ := f1_.symm; have f5_ := f3_.symm; clear f1_ f2_ f3_; subst f4_; subst f5_))
   have p136 : 0 ≤ ((ji10) : Int) := za
   have q136 : (ji10) < (x4_1.length : Int) := za
   obtain ⟨ad136, e136, hx136_0, hx136_1⟩ := at_T46 (Kd.R_reads' HO_4.out).2.2 (ji10) p136 q136
   cases e136
   replace p136 := eq_true p136
   replace q136 := eq_true q136
   refine start_ (n := 15) (S := fun w' => w'.cell? ⟨gb135, 0, none⟩ = some (.int .i64 t133) ∧ w'.cell? ⟨gb135, 1, none⟩ = some (.int .i64 t134) ∧ w'.cell? ⟨gb129, 0, none⟩ = some (.int .i64 a0_0) ∧ w'.cell? ⟨gb129, 1, none⟩ = some (.int .i64 a0_1) ∧ w'.cell? ⟨gb129, 2, none⟩ = some (.slice A0_2 l0_2.length c0_2) ∧ w'.cell? ⟨gb129, 3, none⟩ = some (.int .i64 a0_3) ∧ w'.cell? ⟨gb129, 4, none⟩ = some (.int .i64 a0_4) ∧ w'.cell? (ad136.add (((ji10)).toNat * 2)) = some (.int .i64 ((rd_T46 x4_1 (ji10)).f0)) ∧ w'.cell? ⟨(ad136.add (((ji10)).toNat * 2)).block, (ad136.add (((ji10)).toNat * 2)).off + 1, none⟩ = some (.int .i64 ((rd_T46 x4_1 (ji10)).f1))) (ds := [14]) #[F,F,F,F,F,F,F,F,F,F,F,F,F,F,F] (by kernel_rfl) rfl rfl ⟨zc0 BK135, zc1 BK135, zc0 BK129, zc1 BK129, zc2 BK129, zc3 BK129, zc4 BK129, hx136_0, hx136_1⟩ (fun hHeld => ?_); refine with_tabW spec_l24Spans.tab8 spec_l24Spans.bits8 (fun HT_ HW_ => ?_)
   generalize w44.drew = w45 at HO_4 BK129 BK135 HB hx136_0 hx136_1 hHeld ⊢
   refine zq HT_ 0 ?_
   refine zq HT_ 2 ?_
   refine zq HT_ 3 ?_
   refine zq HT_ 4 ?_
   refine zq HT_ 5 ?_
   refine zq HT_ 6 ?_
   refine zq HT_ 8 ?_
   refine zq HT_ 9 ?_
   refine zk9 HT_ HW_ hHeld 1 ?_
   refine zk9 HT_ HW_ hHeld 7 ?_
   refine zk9 HT_ HW_ hHeld 10 ?_
   refine zq HT_ 11 ?_
   refine zo HT_ 12 (fun K hK => ?_)
   refine goes_ Try.func54 (by kernel_rfl) rfl #[.int .i64 t133, .int .i64 (wrap64 (((rd_T46 x4_1 (ji10)).f0) + a0_0))] (by rfl) rfl rfl (by (try simp only [List.map_toArray, List.map_cons, List.map_nil]); first | done | (simp only [hji10]; rfl) | rfl | (simp only [List.length_drop, List.length_take]; rfl)) ?_
   with_reducible refine (spec_l21Max.calls t133 (wrap64 (((rd_T46 x4_1 (ji10)).f0) + a0_0)) t137 _ A13.out).mono ?_
   rintro e w' ⟨rfl, ⟨nd, rfl⟩⟩
   refine ⟨_, rfl, ?_⟩
   refine hK.out _ _ ⟨zc0 BK135, zc1 BK135, zc0 BK129, zc1 BK129, zc2 BK129, zc3 BK129, zc4 BK129, hHeld.2.2.2.2.2.2.2⟩ (fun hHeld => ?_)
   clear hK K
   refine zN ?_
   refine zq HT_ 13 ?_
   refine zO HT_ 14 (fun K hK => ?_)
   have hs47 : w45.cell? ⟨gb135, 0, none⟩ = some (.int .i64 t133) := zc0 BK135
   have hfs47 := zf BK135 0
   have hns47_0 := NB129_135.out
   have hms47_0 := NB135_129.out
   refine skip_ (w1 := ?_) (by rfl) rfl ?_ ?_
   rotate_left
   ·go_simp
    rfl
   refine hK.out _ _ ?_
   clear hK K
   refine done_ (done_of HT_.out (by kernel_rfl)) ?_
   try go_wp2
   have n0_ : Aside0 (Kd.R k46 46 (w45.setCell ⟨gb135, 0, none⟩ (.int .i64 t137)) w.heap.size (fun k_ => k_ ≠ gb135) (.slice (some ad136) x4_1.length co46) x4_1) := ⟨by (with_reducible repeat (first | apply Kd.R_alloc | apply Kd.R_drewN | apply Kd.R_drew)); exact Kd.R_mono (Kd.R_far (p := ⟨gb135, 0, none⟩) (Kd.R_mono HO_4.out (fun k_ hk => (⟨hk, hk⟩ : _ ∧ k_ ≠ gb135))) (fun _ hk => hk.2) (.int .i64 t137)) (fun _ hk => hk.1)⟩
   have n1_ : Aside0 ((w45.setCell ⟨gb135, 0, none⟩ (.int .i64 t137)).heap[gb129]? = some (.cells #[.int .i64 a0_0, .int .i64 a0_1, .slice A0_2 l0_2.length c0_2, .int .i64 a0_3, .int .i64 a0_4] 34 (0, 0))) := ⟨zpf BK129 NB129_135⟩
   have n2_ : Aside0 ((w45.setCell ⟨gb135, 0, none⟩ (.int .i64 t137)).heap[gb135]? = some (.cells #[.int .i64 t137, .int .i64 t134] 46 (0, 0))) := ⟨zpb BK135⟩
   have n3_ : Aside0 (Below w.heap.size w (w45.setCell ⟨gb135, 0, none⟩ (.int .i64 t137))) := ⟨zs2 HB GE129 GE135⟩
   (try clear HO_4)
   (try clear BK129)
   (try clear BK135)
   (try clear HB)
   generalize (w45.setCell ⟨gb135, 0, none⟩ (.int .i64 t137)) = w48 at n0_ n1_ n2_ n3_ ⊢
   have HO_4 := n0_
   have BK129 := n1_
   have BK135 := n2_
   have HB := n3_
   clear n0_ n1_ n2_ n3_
   (try (rw [drewN_self w48]; generalize hq_ : World.drewN w48 _ = w48; replace HO_4 : Aside0 (Kd.R k46 46 w48 w.heap.size (fun k_ => k_ ≠ gb135) (.slice (some ad136) x4_1.length co46) x4_1) := ⟨by rw [← hq_]; exact (zr HO_4)⟩; replace BK129 : Aside0 (w48.heap[gb129]? = some (.cells #[.int .i64 a0_0, .int .i64 a0_1, .slice A0_2 l0_2.length c0_2, .int .i64 a0_3, .int .i64 a0_4] 34 (0, 0))) := ⟨by rw [← hq_]; exact (zh BK129)⟩; replace BK135 : Aside0 (w48.heap[gb135]? = some (.cells #[.int .i64 t137, .int .i64 t134] 46 (0, 0))) := ⟨by rw [← hq_]; exact (zh BK135)⟩; replace HB : Aside0 (Below w.heap.size w w48) := ⟨by rw [← hq_]; exact (zs2 HB GE129 GE135)⟩; clear hq_))
   replace HO_4 := zA (Kd.R_drew HO_4.out)
   replace BK129 := zA (blk_drew BK129.out)
   replace BK135 := zA (blk_drew BK135.out)
   replace HB := zA (below_drew1 HB.out)
   have p138 : 0 ≤ ((ji10) : Int) := za
   have q138 : (ji10) < (x4_1.length : Int) := za
   obtain ⟨ad138, e138, hx138_0, hx138_1⟩ := at_T46 (Kd.R_reads' HO_4.out).2.2 (ji10) p138 q138
   obtain rfl : ad136 = ad138 := (by injection e138)
   replace p138 := eq_true p138
   replace q138 := eq_true q138
   refine start_ (n := 16) (S := fun w' => w'.cell? ⟨gb135, 0, none⟩ = some (.int .i64 t137) ∧ w'.cell? ⟨gb135, 1, none⟩ = some (.int .i64 t134) ∧ w'.cell? ⟨gb129, 0, none⟩ = some (.int .i64 a0_0) ∧ w'.cell? ⟨gb129, 1, none⟩ = some (.int .i64 a0_1) ∧ w'.cell? ⟨gb129, 2, none⟩ = some (.slice A0_2 l0_2.length c0_2) ∧ w'.cell? ⟨gb129, 3, none⟩ = some (.int .i64 a0_3) ∧ w'.cell? ⟨gb129, 4, none⟩ = some (.int .i64 a0_4) ∧ w'.cell? (ad136.add (((ji10)).toNat * 2)) = some (.int .i64 ((rd_T46 x4_1 (ji10)).f0)) ∧ w'.cell? ⟨(ad136.add (((ji10)).toNat * 2)).block, (ad136.add (((ji10)).toNat * 2)).off + 1, none⟩ = some (.int .i64 ((rd_T46 x4_1 (ji10)).f1))) (ds := [15]) #[F,F,F,F,F,F,F,F,F,F,F,F,F,F,F,F] (by kernel_rfl) rfl rfl ⟨zc0 BK135, zc1 BK135, zc0 BK129, zc1 BK129, zc2 BK129, zc3 BK129, zc4 BK129, hx138_0, hx138_1⟩ (fun hHeld => ?_); refine with_tabW spec_l24Spans.tab9 spec_l24Spans.bits9 (fun HT_ HW_ => ?_)
   generalize w48.drew = w49 at HO_4 BK129 BK135 HB hx138_0 hx138_1 hHeld ⊢
   refine zq HT_ 0 ?_
   refine zq HT_ 2 ?_
   refine zq HT_ 3 ?_
   refine zq HT_ 4 ?_
   refine zq HT_ 5 ?_
   refine zq HT_ 6 ?_
   refine zq HT_ 9 ?_
   refine zq HT_ 10 ?_
   refine zk9 HT_ HW_ hHeld 1 ?_
   refine zk9 HT_ HW_ hHeld 7 ?_
   refine zk9 HT_ HW_ hHeld 8 ?_
   refine zo HT_ 11 (fun K hK => ?_)
   refine goes_ Try.func82 (by kernel_rfl) rfl #[.agg #[.int .i64 a0_0, .int .i64 a0_1, .slice A0_2 l0_2.length c0_2, .int .i64 a0_3, .int .i64 a0_4], .int .i64 ji10] (by rfl) rfl rfl (by (try simp only [List.map_toArray, List.map_cons, List.map_nil]); first | done | (simp only [hji10]; rfl) | rfl | (simp only [List.length_drop, List.length_take]; rfl)) ?_
   with_reducible refine (spec_l23Most.calls a0_0 a0_1 _ _ l0_2 a0_3 a0_4 ji10 t139 _ ?side1 ?side2 A14.out).mono ?_
   (case side1 => exact zC HR0_2 HB)
   (case side2 => exact HC0_2.out)
   rintro e w50 ⟨rfl, hb⟩
   have HS7_ := (hb.cell (World.block_lt_of_cell? _ _ (hHeld.2.2.2.2.2.2.2.1))).trans (hHeld.2.2.2.2.2.2.2.1)
   have HS8_ := (hb.cell (World.block_lt_of_cell? _ _ (hHeld.2.2.2.2.2.2.2.2))).trans (hHeld.2.2.2.2.2.2.2.2)
   refine ⟨_, rfl, ?_⟩
   replace HO_4 := zA (Kd.R_below (zr HO_4) hb)
   replace BK129 := zb BK129 hb
   replace BK135 := zb BK135 hb
   replace HB := zE (zs2 HB GE129 GE135) hb
   (try clear hb)
   (try clear hb2)
   (try clear hk)
   (try clear hi)
   refine hK.out _ _ ⟨zc0 BK135, zc1 BK135, zc0 BK129, zc1 BK129, zc2 BK129, zc3 BK129, zc4 BK129, HS7_, HS8_⟩ (fun hHeld => ?_)
   clear hK K
   refine zN ?_
   refine zq HT_ 12 ?_
   refine zo HT_ 13 (fun K hK => ?_)
   refine goes_ Try.func53 (by kernel_rfl) rfl #[.int .i64 t134, .int .i64 (wrap64 (((rd_T46 x4_1 (ji10)).f1) + t139))] (by rfl) rfl rfl (by (try simp only [List.map_toArray, List.map_cons, List.map_nil]); first | done | (simp only [hji10]; rfl) | rfl | (simp only [List.length_drop, List.length_take]; rfl)) ?_
   with_reducible refine (spec_l21Min.calls t134 (wrap64 (((rd_T46 x4_1 (ji10)).f1) + t139)) t140 _ A15.out).mono ?_
   rintro e w' ⟨rfl, ⟨nd, rfl⟩⟩
   refine ⟨_, rfl, ?_⟩
   refine hK.out _ _ ⟨zc0 BK135, zc1 BK135, zc0 BK129, zc1 BK129, zc2 BK129, zc3 BK129, zc4 BK129, hHeld.2.2.2.2.2.2.2⟩ (fun hHeld => ?_)
   clear hK K
   refine zN ?_
   refine zq HT_ 14 ?_
   refine zO HT_ 15 (fun K hK => ?_)
   have hs51 : w50.cell? ⟨gb135, 1, none⟩ = some (.int .i64 t134) := zc1 BK135
   have hfs51 := zf BK135 1
   have hns51_0 := NB129_135.out
   have hms51_0 := NB135_129.out
   refine skip_ (w1 := ?_) (by rfl) rfl ?_ ?_
   rotate_left
   ·go_simp
    rfl
   refine hK.out _ _ ?_
   clear hK K
   refine done_ (done_of HT_.out (by kernel_rfl)) ?_
   have hnb52 := NB135_129.out
   have hnc52 := NB129_135.out
   obtain ⟨hcz53_0, hcz53_1⟩ := zd2 BK135
   obtain ⟨hfz53_0, hfz53_1⟩ := zn2 BK135
   try go_wp2_with (first | ((with_reducible refine gate_builtin (b := .append) (xs := #[.tmp 62, .tmp 64]) rfl ?_); at_builtin; refine Kd.R_append k46 (w0 := w) w.heap.size rfl (.tmp 62) (.tmp 64) 63 46 (.agg #[(.int .i64 0), (.int .i64 0)]) 16 rfl Try.underlying63 info46 rfl (by decide) (by omega) (.slice (some ad136) x4_1.length co46) x4_1 (⟨t137, t140⟩ : S46) [.int .i64 t137, .int .i64 t140] (fun k_ => k_ ≠ gb135) (fun _ => False) rfl (by first | (go_simp; done) | (go_simp; rfl)) ?aP (fun _ hk => hk.elim) ?aF ?aO ?aB ?aS ?aL ?_; (case aP => exact k46_mkM _ _ _ (⟨t137, t140⟩ : S46)); (case aB => exact (zs2 HB GE129 GE135)); (case aF => exact (fun k_ hk => Kd.freshB (g := gb135) (o := .cells #[.int .i64 t137, .int .i64 t140] 46 (0, 0)) (zpb BK135) k_ hk)); (case aO => exact (by (with_reducible repeat (first | apply Kd.R_alloc | apply Kd.R_drewN | apply Kd.R_drew)); exact Kd.R_mono (Kd.R_far (p := ⟨gb135, 1, none⟩) (Kd.R_mono HO_4.out (fun k_ hk => (⟨hk, hk⟩ : _ ∧ k_ ≠ gb135))) (fun _ hk => hk.2) (.int .i64 t140)) (fun _ hk => hk.1))); (case aS => exact (below_size (zs2 HB GE129 GE135))); (case aL => have := LMc36.out; omega); intro v145 w54 ho hb hg hat; rw [← Ny144.out] at ho; have HO146 := zA (ho); replace BK129 := zA (blk_grown (g := gb129) (o := .cells #[.int .i64 a0_0, .int .i64 a0_1, .slice A0_2 l0_2.length c0_2, .int .i64 a0_3, .int .i64 a0_4] 34 (0, 0)) (zpf BK129 NB129_135) hg (Kd.R_ne HO_4.out BK129.out (by decide))); replace BK135 := zA (blk_grown (g := gb135) (o := .cells #[.int .i64 t137, .int .i64 t140] 46 (0, 0)) (zpb BK135) hg (Kd.R_away HO_4.out (fun _ hk => hk))); replace HB := zA (hb); clear HO_4; clear ho hb hg hat))
   go_roundg k1
   case measure => have := HK1.out; omega
   case rel => exact ⟨(y144), (wrap64 (x6_1 + 1)), zi, H', ⟨by have := HK1.out; omega⟩, ⟨by (with_reducible repeat (first | apply Kd.R_alloc | apply Kd.R_drewN | apply Kd.R_drew)); exact Kd.R_mono HO146.out (fun _ hk => trivial)⟩, ⟨zh BK129⟩, ⟨zs2 HB GE129 GE135⟩⟩
end Go.Proofs.Ytidenmcoilmbcaa.QFnExactFlyGo
