/- The walk of what the law FnExactFlyGo reaches: laid by a program of this session (ownprint.py). -/
import Derived.Test.YtidenmcoilmbcaaQFnExactFlyGox0
import Derived.Test.YtidenmcoilmbcaaQFnExactFlyGox12
namespace Go.Proofs.Ytidenmcoilmbcaa.QFnExactFlyGo
open Go.RowKit Go.Proofs.YtidenmcoilmbcaaW.PrintWords Go.Proofs.YtidenmcoilmbcaaW.PrintLast Go.Proofs.YtidenmcoilmbcaaW.PrintMore Go.Proofs.Ytidenmcoilmbcaa.Z
attribute [local go_sem] max2_int min2_int max_two min_two max_three min_three max_four min_four zdn   -- for this text's walks alone
set_option linter.unusedVariables false
set_option linter.unusedSimpArgs false
mutual
def impl_FlyPath_spans.l0 : Nat → List Int → Int → List (S46) → Int → Int → Int → Int → List (S88) → Int → Int → Option ((List (S46)) × Bool)
 | 0, _, _, _, _, _, _, _, _, _, _ => none
 | k + 1, x1, x6, x7, x20, x21, x304000, x304001, x304002, x304003, x304004 => if x21 < x20 then ((impl_FlyPath_bound.f x304000 x304001 x304002 x304003 x304004 x21).bind fun bt307 => (if 0 ≤ x21 then (if x21 < (x7.length : Int) then ((some (x7.set (x21 : Int).toNat (⟨bt307.1, (rd_T46 x7 x21).f1⟩ : S46) : List (S46))).bind fun y309 => ((some (y309.set (x21 : Int).toNat (⟨(rd_T46 y309 x21).f0, bt307.2⟩ : S46) : List (S46))).bind fun y310 => (if x21 < (x1.length : Int) then ((some (y310.set (x21 : Int).toNat (⟨mx ((rd_T46 y310 x21).f0) (rd x1 x21), (rd_T46 y310 x21).f1⟩ : S46) : List (S46))).bind fun y315 => (impl_FlyPath_spans.l0 k x1 x6 (y315.set (x21 : Int).toNat (⟨(rd_T46 y315 x21).f0, mn ((rd_T46 y310 x21).f1) (rd x1 x21)⟩ : S46)) x20 (wrap64 (x21 + 1)) x304000 x304001 x304002 x304003 x304004)) else (impl_FlyPath_spans.l0 k x1 x6 y310 x20 (wrap64 (x21 + 1)) x304000 x304001 x304002 x304003 x304004)))) else (none)) else (none))) else (impl_FlyPath_spans.l1 k x6 x7 1 x304000 x304001 x304002 x304003 x304004)
def impl_FlyPath_spans.l1 : Nat → Int → List (S46) → Int → Int → Int → List (S88) → Int → Int → Option ((List (S46)) × Bool)
 | 0, _, _, _, _, _, _, _, _ => none
 | k + 1, x6, x7, x9, x304000, x304001, x304002, x304003, x304004 => if x9 ≤ x6 then (if 0 ≤ x9 then (if x9 < (x7.length : Int) then (if 0 ≤ (wrap64 (x9 - 1)) then (if (wrap64 (x9 - 1)) < (x7.length : Int) then ((some (x7.set (x9 : Int).toNat (⟨mx ((rd_T46 x7 x9).f0) (wrap64 (((rd_T46 x7 (wrap64 (x9 - 1))).f0) + x304000)), (rd_T46 x7 x9).f1⟩ : S46) : List (S46))).bind fun y319 => (if (wrap64 (x9 - 1)) < (x304002.length : Int) then (if ((rd_T88 x304002 (wrap64 (x9 - 1))).f6 = true) then (impl_FlyPath_spans.l1 k x6 y319 (wrap64 (x9 + 1)) x304000 x304001 x304002 x304003 x304004) else (impl_FlyPath_spans.l1 k x6 (y319.set (x9 : Int).toNat (⟨(rd_T46 y319 x9).f0, mn ((rd_T46 y319 x9).f1) (wrap64 (((rd_T46 y319 (wrap64 (x9 - 1))).f1) + x304001))⟩ : S46)) (wrap64 (x9 + 1)) x304000 x304001 x304002 x304003 x304004)) else (none))) else (none)) else (none)) else (none)) else (none)) else (impl_FlyPath_spans.l2 k x7 (wrap64 (x6 - 1)) x304000 x304001 x304002 x304003 x304004)
def impl_FlyPath_spans.l2 : Nat → List (S46) → Int → Int → Int → List (S88) → Int → Int → Option ((List (S46)) × Bool)
 | 0, _, _, _, _, _, _, _ => none
 | k + 1, x7, x10, x304000, x304001, x304002, x304003, x304004 => if x10 ≥ 0 then (if 0 ≤ x10 then (if x10 < (x7.length : Int) then (if 0 ≤ (wrap64 (x10 + 1)) then (if (wrap64 (x10 + 1)) < (x7.length : Int) then ((some (x7.set (x10 : Int).toNat (⟨(rd_T46 x7 x10).f0, mn ((rd_T46 x7 x10).f1) (wrap64 (((rd_T46 x7 (wrap64 (x10 + 1))).f1) - x304000))⟩ : S46) : List (S46))).bind fun y326 => (if x10 < (x304002.length : Int) then (if ((rd_T88 x304002 x10).f6 = true) then (impl_FlyPath_spans.l2 k y326 (wrap64 (x10 - 1)) x304000 x304001 x304002 x304003 x304004) else (impl_FlyPath_spans.l2 k (y326.set (x10 : Int).toNat (⟨mx ((rd_T46 y326 x10).f0) (wrap64 (((rd_T46 y326 (wrap64 (x10 + 1))).f0) - x304001)), (rd_T46 y326 x10).f1⟩ : S46)) (wrap64 (x10 - 1)) x304000 x304001 x304002 x304003 x304004)) else (none))) else (none)) else (none)) else (none)) else (none)) else (impl_FlyPath_spans.l3 k x7 x7 (x7.length : Int) 0)
def impl_FlyPath_spans.l3 : Nat → List (S46) → List (S46) → Int → Int → Option ((List (S46)) × Bool)
 | 0, _, _, _, _ => none
 | k + 1, x7, x177, x178, x179 => if x179 < x178 then (if 0 ≤ x179 then (if x179 < (x177.length : Int) then (if ((rd_T46 x177 x179).f0) > ((rd_T46 x177 x179).f1) then (some (([] : List (S46)), false)) else (impl_FlyPath_spans.l3 k x7 x177 x178 (wrap64 (x179 + 1)))) else (none)) else (none)) else (some (x7, true))
end
def impl_FlyPath_spans.f (k : Nat) (a0_0 : Int) (a0_1 : Int) (l0_2 : List (S88)) (a0_3 : Int) (a0_4 : Int) (l1 : List Int) : Option ((List (S46)) × Bool) := if 0 ≤ (wrap64 ((l0_2.length : Int) + 1)) then (if (wrap64 ((l0_2.length : Int) + 1) : Int).toNat ≤ 17592186044416 then ((some (List.replicate (wrap64 ((l0_2.length : Int) + 1) : Int).toNat z46 : List (S46))).bind fun y304 => (impl_FlyPath_spans.l0 k l1 (l0_2.length : Int) y304 (y304.length : Int) 0 a0_0 a0_1 l0_2 a0_3 a0_4)) else (none)) else (none)
def impl_FlyPath_spans.T8 : Bool × List (List Nat × List Nat) := (true, [([], []), ([], []), ([], []), ([], []), ([], []), ([], []), ([4, 5], [4, 5]), ([6], [6]), ([7], [7]), ([], []), ([], []), ([9, 10], [9, 10]), ([11], [11]), ([8, 12], [8, 12]), ([], []), ([], []), ([14, 15], [14, 15]), ([16], [16]), ([17], [17]), ([], []), ([], []), ([19, 20], [19, 20]), ([21], [21]), ([18, 22], [18, 22]), ([0, 1, 0, 1, 4, 5, 6, 7, 8, 9, 10, 11, 12, 13, 18, 22], [0, 1]), ([24, 0, 1, 4, 5, 6, 7, 8, 9, 10, 11, 12, 13, 18, 22], [24]), ([25, 13, 0, 1, 4, 5, 6, 7, 8, 9, 10, 11, 12, 13, 18, 22], [13, 25]), ([2, 3, 0, 1, 2, 3, 4, 5, 6, 7, 8, 9, 10, 11, 12, 13, 14, 15, 16, 17, 18, 19, 20, 21, 22, 23, 24, 25, 26], [2, 3]), ([27, 0, 1, 2, 3, 4, 5, 6, 7, 8, 9, 10, 11, 12, 13, 14, 15, 16, 17, 18, 19, 20, 21, 22, 23, 24, 25, 26], [27]), ([28, 23, 26, 0, 1, 2, 3, 4, 5, 6, 7, 8, 9, 10, 11, 12, 13, 14, 15, 16, 17, 18, 19, 20, 21, 22, 23, 24, 25, 26], [23, 28])])
def impl_FlyPath_spans.B8 : List Nat := [0, 0, 0, 0, 0, 0, 48, 112, 240, 0, 0, 1536, 3584, 8176, 0, 0, 49152, 114688, 245760, 0, 0, 1572864, 3670016, 8372224, 8388595, 25165811, 58720243, 134217727, 268435455, 536870911]
theorem impl_FlyPath_spans.tab8 : rtab .any (opsOf Try.f64 8) = impl_FlyPath_spans.T8 := by kernel_rfl
theorem impl_FlyPath_spans.bits8 : waitsOk impl_FlyPath_spans.T8.2 impl_FlyPath_spans.B8 = true := by kernel_rfl
def impl_FlyPath_spans.T13 : Bool × List (List Nat × List Nat) := (true, [([], []), ([], []), ([], []), ([], []), ([2, 3], [2, 3]), ([4], [4]), ([5], [5]), ([], []), ([], []), ([8], [8]), ([7, 9], [7, 9]), ([10], [10]), ([11], [11]), ([], []), ([13], [13]), ([14], [14]), ([12, 15], [12, 15]), ([6, 16], [6, 16]), ([0, 1, 0, 1, 2, 3, 4, 5, 6, 7, 8, 9, 10, 11, 12, 13, 14, 15, 16, 17], [0, 1]), ([18, 0, 1, 2, 3, 4, 5, 6, 7, 8, 9, 10, 11, 12, 13, 14, 15, 16, 17], [18]), ([19, 17, 0, 1, 2, 3, 4, 5, 6, 7, 8, 9, 10, 11, 12, 13, 14, 15, 16, 17], [17, 19])])
def impl_FlyPath_spans.B13 : List Nat := [0, 0, 0, 0, 12, 28, 60, 0, 0, 256, 896, 1920, 3968, 0, 8192, 24576, 65408, 131068, 262143, 524287, 1048575]
theorem impl_FlyPath_spans.tab13 : rtab .any (opsOf Try.f64 13) = impl_FlyPath_spans.T13 := by kernel_rfl
theorem impl_FlyPath_spans.bits13 : waitsOk impl_FlyPath_spans.T13.2 impl_FlyPath_spans.B13 = true := by kernel_rfl
def impl_FlyPath_spans.T15 : Bool × List (List Nat × List Nat) := (true, [([], []), ([], []), ([], []), ([], []), ([2, 3], [2, 3]), ([4], [4]), ([5], [5]), ([], []), ([], []), ([8], [8]), ([7, 9], [7, 9]), ([10], [10]), ([11], [11]), ([], []), ([13], [13]), ([14], [14]), ([12, 15], [12, 15]), ([6, 16], [6, 16]), ([0, 1, 0, 1, 2, 3, 4, 5, 6, 7, 8, 9, 10, 11, 12, 13, 14, 15, 16, 17], [0, 1]), ([18, 0, 1, 2, 3, 4, 5, 6, 7, 8, 9, 10, 11, 12, 13, 14, 15, 16, 17], [18]), ([19, 17, 0, 1, 2, 3, 4, 5, 6, 7, 8, 9, 10, 11, 12, 13, 14, 15, 16, 17], [17, 19])])
def impl_FlyPath_spans.B15 : List Nat := [0, 0, 0, 0, 12, 28, 60, 0, 0, 256, 896, 1920, 3968, 0, 8192, 24576, 65408, 131068, 262143, 524287, 1048575]
theorem impl_FlyPath_spans.tab15 : rtab .any (opsOf Try.f64 15) = impl_FlyPath_spans.T15 := by kernel_rfl
theorem impl_FlyPath_spans.bits15 : waitsOk impl_FlyPath_spans.T15.2 impl_FlyPath_spans.B15 = true := by kernel_rfl
def impl_FlyPath_spans.T19 : Bool × List (List Nat × List Nat) := (true, [([], []), ([], []), ([], []), ([], []), ([2, 3], [2, 3]), ([4], [4]), ([5], [5]), ([], []), ([], []), ([8], [8]), ([7, 9], [7, 9]), ([10], [10]), ([11], [11]), ([], []), ([13], [13]), ([14], [14]), ([12, 15], [12, 15]), ([6, 16], [6, 16]), ([0, 1, 0, 1, 2, 3, 4, 5, 6, 7, 8, 9, 10, 11, 12, 13, 14, 15, 16, 17], [0, 1]), ([18, 0, 1, 2, 3, 4, 5, 6, 7, 8, 9, 10, 11, 12, 13, 14, 15, 16, 17], [18]), ([19, 17, 0, 1, 2, 3, 4, 5, 6, 7, 8, 9, 10, 11, 12, 13, 14, 15, 16, 17], [17, 19])])
def impl_FlyPath_spans.B19 : List Nat := [0, 0, 0, 0, 12, 28, 60, 0, 0, 256, 896, 1920, 3968, 0, 8192, 24576, 65408, 131068, 262143, 524287, 1048575]
theorem impl_FlyPath_spans.tab19 : rtab .any (opsOf Try.f64 19) = impl_FlyPath_spans.T19 := by kernel_rfl
theorem impl_FlyPath_spans.bits19 : waitsOk impl_FlyPath_spans.T19.2 impl_FlyPath_spans.B19 = true := by kernel_rfl
def impl_FlyPath_spans.T21 : Bool × List (List Nat × List Nat) := (true, [([], []), ([], []), ([], []), ([], []), ([2, 3], [2, 3]), ([4], [4]), ([5], [5]), ([], []), ([], []), ([8], [8]), ([7, 9], [7, 9]), ([10], [10]), ([11], [11]), ([], []), ([13], [13]), ([14], [14]), ([12, 15], [12, 15]), ([6, 16], [6, 16]), ([0, 1, 0, 1, 2, 3, 4, 5, 6, 7, 8, 9, 10, 11, 12, 13, 14, 15, 16, 17], [0, 1]), ([18, 0, 1, 2, 3, 4, 5, 6, 7, 8, 9, 10, 11, 12, 13, 14, 15, 16, 17], [18]), ([19, 17, 0, 1, 2, 3, 4, 5, 6, 7, 8, 9, 10, 11, 12, 13, 14, 15, 16, 17], [17, 19])])
def impl_FlyPath_spans.B21 : List Nat := [0, 0, 0, 0, 12, 28, 60, 0, 0, 256, 896, 1920, 3968, 0, 8192, 24576, 65408, 131068, 262143, 524287, 1048575]
theorem impl_FlyPath_spans.tab21 : rtab .any (opsOf Try.f64 21) = impl_FlyPath_spans.T21 := by kernel_rfl
theorem impl_FlyPath_spans.bits21 : waitsOk impl_FlyPath_spans.T21.2 impl_FlyPath_spans.B21 = true := by kernel_rfl
set_option maxHeartbeats 8000000 in
set_option maxRecDepth 100000 in
theorem impl_FlyPath_spans.calls (k : Nat) (a0_0 : Int) (a0_1 : Int) (A0_2 : Option Addr) (c0_2 : Nat) (l0_2 : List (S88)) (a0_3 : Int) (a0_4 : Int) (A1 : Option Addr) (c1 : Nat) (l1 : List Int) (r1 : List (S46)) (r2 : Bool) (w : World) (hr0_2 : Kd.C k88 w A0_2 l0_2.length l0_2) (hc0_2 : l0_2.length ≤ c0_2) (hr1 : Kd.C (Kd.int .i64) w A1 l1.length l1) (hc1 : l1.length ≤ c1) (h : impl_FlyPath_spans.f k a0_0 a0_1 l0_2 a0_3 a0_4 l1 = some (r1, r2)) :
 Calls Try.prog 64 #[.agg #[.int .i64 a0_0, .int .i64 a0_1, .slice A0_2 l0_2.length c0_2, .int .i64 a0_3, .int .i64 a0_4], .slice A1 l1.length c1] w fun e w' => ∃ v0_ : Value, e = .returned (.tuple #[v0_, .bool r2]) ∧ Kd.R k46 46 w' w.heap.size (fun _ => True) v0_ r1 ∧ Below w.heap.size w w' := by
 have hu34 := Try.underlying34
 have hu46 := Try.underlying46
 have HR0_2 := zA hr0_2
 have HC0_2 := zA hc0_2
 clear hr0_2 hc0_2
 have HR1 := zA hr1
 have HC1 := zA hc1
 clear hr1 hc1
 have HB := zA (Below.refl w.heap.size w)
 have H : (if 0 ≤ (wrap64 ((l0_2.length : Int) + 1)) then (if (wrap64 ((l0_2.length : Int) + 1) : Int).toNat ≤ 17592186044416 then ((some (List.replicate (wrap64 ((l0_2.length : Int) + 1) : Int).toNat z46 : List (S46))).bind fun y304 => (impl_FlyPath_spans.l0 k l1 (l0_2.length : Int) y304 (y304.length : Int) 0 a0_0 a0_1 l0_2 a0_3 a0_4)) else (none)) else (none)) = some (r1, r2) := h
 clear h
 obtain ⟨ji3, hji3⟩ : ∃ j_ : Int, (wrap64 ((l0_2.length : Int) + 1)) = j_ := ⟨_, rfl⟩
 first | rw [hji3] at H | simp only [hji3] at H
 have hji3w : (IntKind.i64.wrap ((l0_2.length : Int) + 1)) = ji3 := (i64_w _).trans hji3
 by_cases c4 : 0 ≤ (ji3)
 rotate_left
 ·rw [if_neg c4] at H
  exact absurd H (by simp)
 rw [if_pos c4] at H
 have c4b0 := eq_true c4
 have c4b1 : decide (0 ≤ (ji3)) = true := decide_eq_true c4
 clear c4
 by_cases c5 : (ji3 : Int).toNat ≤ 17592186044416
 rotate_left
 ·rw [if_neg c5] at H
  exact absurd H (by simp)
 rw [if_pos c5] at H
 have c5b0 := eq_true c5
 have c5b1 : decide ((ji3 : Int).toNat ≤ 17592186044416) = true := decide_eq_true c5
 clear c5
 obtain ⟨y304, hy304⟩ : ∃ y_ : List (S46), y_ = (List.replicate (ji3 : Int).toNat z46) := ⟨_, rfl⟩
 replace H : (impl_FlyPath_spans.l0 k l1 (l0_2.length : Int) y304 (y304.length : Int) 0 a0_0 a0_1 l0_2 a0_3 a0_4) = some (r1, r2) := by first | (rw [hy304]; with_reducible exact H) | (have H2_ := (Option.bind_some _ _).symm.trans H; rw [hy304]; with_reducible exact H2_) | (have H2_ := (Option.bind_some _ _).symm.trans H; with_reducible exact H2_) | with_reducible exact H | (rw [hy304]; exact H) | exact H
 have Ny304 := zA hy304
 clear hy304
 have H' := zA H
 clear H
 go_enter Try.func64, Try.ntmps64
 go_wp2_with (first | ((with_reducible refine gate_dst (N := 2) rfl ?_); refine zbx 2 #[.int .i64 a0_0, .int .i64 a0_1, .slice A0_2 l0_2.length c0_2, .int .i64 a0_3, .int .i64 a0_4] 34 ?_; intro gb303 hg w6 hbox hb; have BK303 := zA hbox; have GW303 := zgs hg (zs0 HB); have GE303 := zgs hg (zs0 HB); replace HB := zE (zs0 HB) hb; clear hb hbox hg; obtain ⟨hcz7_0, hcz7_1, hcz7_2, hcz7_3, hcz7_4⟩ := zd5 BK303; obtain ⟨hfz7_0, hfz7_1, hfz7_2, hfz7_3, hfz7_4⟩ := zn5 BK303) | ((with_reducible refine gate_dst (N := 18) rfl ?_); refine Kd.R_make k46 _ 46 rfl (N := 18) rfl 63 _ _ rfl ji3 rfl rfl Try.underlying63 (.agg #[(.int .i64 0), (.int .i64 0)]) 16 info46 rfl (by decide) (by omega) z46 (ok := fun _ => True) (okp := fun _ => True) (k46_mkM _ _ _ z46 ) (fun _ hk => hk) trivial (za) (Nat.le_trans (Nat.mul_le_mul_right _ (za : ji3.toNat ≤ 17592186044416)) (by omega)) (Below.refl _ _) (Nat.le_refl _) ?_; intro v305 w8 ho9 hb hg_ hnew_; clear hg_ hnew_; (first | rw [← Ny304.out] at ho9 | (simp only [Int.reduceToNat] at ho9; rw [← Ny304.out] at ho9)); have HO306 := zA (Kd.R_lower ho9 (below_size (zs1 HB GE303))); replace BK303 := zb BK303 hb; replace HB := zE (zs1 HB GE303) hb; clear hb ho9; obtain ⟨Ao10, co10, eo10⟩ := Kd.R_slice HO306.out; subst eo10))
 go_loopg [21] k (fun kq v21 w' => ∃ (x7_1 : List (S46)) (x21_1 : Int), v21 = .int .i64 x21_1 ∧ Aside0 (impl_FlyPath_spans.l0 kq l1 (l0_2.length : Int) x7_1 (y304.length : Int) x21_1 a0_0 a0_1 l0_2 a0_3 a0_4 = some (r1, r2)) ∧ Aside0 (kq ≤ k) ∧ Aside0 (Kd.R k46 46 w' w.heap.size (fun _ => True) (.slice Ao10 y304.length co10) x7_1) ∧ Aside0 (w'.heap[gb303]? = some (.cells #[.int .i64 a0_0, .int .i64 a0_1, (.slice A0_2 l0_2.length c0_2), .int .i64 a0_3, .int .i64 a0_4] 34 (0, 0))) ∧ Aside0 (Below w.heap.size w w'))
 case atStart => exact ⟨(y304), (0), zi, H', ⟨Nat.le_refl _⟩, ⟨zr HO306⟩, ⟨zh BK303⟩, ⟨zs1 HB GE303⟩⟩
 case round =>
  clear H'
  try clear c1
  try clear p2
  try clear c4
  try clear c4b0
  try clear c4b1
  try clear c5
  try clear c5b0
  try clear c5b1
  try clear c6
  try clear p6
  try clear hcz7_0 hcz7_1 hcz7_2 hcz7_3 hcz7_4 hfz7_0 hfz7_1 hfz7_2 hfz7_3 hfz7_4
  obtain ⟨x7_1, x21_1, rfl, HA, HK1, HO_7, BK303, HB⟩ := hrel
  have hl7_1 := (Kd.R_reads' HO_7.out).1
  rw [hl7_1] at HO_7
  (try simp only [hl7_1])
  (try simp only [hl7_1] at BK303)
  cases gk with
  | zero => exact absurd HA.out (by simp [impl_FlyPath_spans.l0])
  | succ k1 =>
   have H := HA.out
   clear HA
   simp only [impl_FlyPath_spans.l0] at H
   by_cases c11 : x21_1 < (y304.length : Int)
   ·rw [if_pos c11] at H
    have c11b0 : decide (x21_1 < (y304.length : Int)) = true := decide_eq_true c11
    clear c11
    replace H := Option.bind_eq_some_iff.mp H
    obtain ⟨⟨t307, t308⟩, A120, H⟩ := H
    replace H : (if 0 ≤ x21_1 then (if x21_1 < (x7_1.length : Int) then ((some (x7_1.set (x21_1 : Int).toNat (⟨t307, (rd_T46 x7_1 x21_1).f1⟩ : S46) : List (S46))).bind fun y309 => ((some (y309.set (x21_1 : Int).toNat (⟨(rd_T46 y309 x21_1).f0, t308⟩ : S46) : List (S46))).bind fun y310 => (if x21_1 < (l1.length : Int) then ((some (y310.set (x21_1 : Int).toNat (⟨mx ((rd_T46 y310 x21_1).f0) (rd l1 x21_1), (rd_T46 y310 x21_1).f1⟩ : S46) : List (S46))).bind fun y315 => (impl_FlyPath_spans.l0 k1 l1 (l0_2.length : Int) (y315.set (x21_1 : Int).toNat (⟨(rd_T46 y315 x21_1).f0, mn ((rd_T46 y310 x21_1).f1) (rd l1 x21_1)⟩ : S46)) (y304.length : Int) (wrap64 (x21_1 + 1)) a0_0 a0_1 l0_2 a0_3 a0_4)) else (impl_FlyPath_spans.l0 k1 l1 (l0_2.length : Int) y310 (y304.length : Int) (wrap64 (x21_1 + 1)) a0_0 a0_1 l0_2 a0_3 a0_4)))) else (none)) else (none)) = some (r1, r2) := H
    have A12 := zA A120
    clear A120
    by_cases c13 : 0 ≤ x21_1
    rotate_left
    ·rw [if_neg c13] at H
     exact absurd H (by simp)
    rw [if_pos c13] at H
    have c13b0 : decide (0 ≤ x21_1) = true := decide_eq_true c13
    clear c13
    by_cases c14 : x21_1 < (x7_1.length : Int)
    rotate_left
    ·rw [if_neg c14] at H
     exact absurd H (by simp)
    rw [if_pos c14] at H
    have c14b0 : decide (x21_1 < (x7_1.length : Int)) = true := decide_eq_true c14
    clear c14
    obtain ⟨y309, hy309⟩ : ∃ y_ : List (S46), y_ = (x7_1.set (x21_1 : Int).toNat (⟨t307, (rd_T46 x7_1 x21_1).f1⟩ : S46)) := ⟨_, rfl⟩
    replace H : ((some (y309.set (x21_1 : Int).toNat (⟨(rd_T46 y309 x21_1).f0, t308⟩ : S46) : List (S46))).bind fun y310 => (if x21_1 < (l1.length : Int) then ((some (y310.set (x21_1 : Int).toNat (⟨mx ((rd_T46 y310 x21_1).f0) (rd l1 x21_1), (rd_T46 y310 x21_1).f1⟩ : S46) : List (S46))).bind fun y315 => (impl_FlyPath_spans.l0 k1 l1 (l0_2.length : Int) (y315.set (x21_1 : Int).toNat (⟨(rd_T46 y315 x21_1).f0, mn ((rd_T46 y310 x21_1).f1) (rd l1 x21_1)⟩ : S46)) (y304.length : Int) (wrap64 (x21_1 + 1)) a0_0 a0_1 l0_2 a0_3 a0_4)) else (impl_FlyPath_spans.l0 k1 l1 (l0_2.length : Int) y310 (y304.length : Int) (wrap64 (x21_1 + 1)) a0_0 a0_1 l0_2 a0_3 a0_4))) = some (r1, r2) := by first | (rw [hy309]; with_reducible exact H) | (have H2_ := (Option.bind_some _ _).symm.trans H; rw [hy309]; with_reducible exact H2_) | (have H2_ := (Option.bind_some _ _).symm.trans H; with_reducible exact H2_) | with_reducible exact H | (rw [hy309]; exact H) | exact H
    have Ny309 := zA hy309
    clear hy309
    obtain ⟨y310, hy310⟩ : ∃ y_ : List (S46), y_ = (y309.set (x21_1 : Int).toNat (⟨(rd_T46 y309 x21_1).f0, t308⟩ : S46)) := ⟨_, rfl⟩
    replace H : (if x21_1 < (l1.length : Int) then ((some (y310.set (x21_1 : Int).toNat (⟨mx ((rd_T46 y310 x21_1).f0) (rd l1 x21_1), (rd_T46 y310 x21_1).f1⟩ : S46) : List (S46))).bind fun y315 => (impl_FlyPath_spans.l0 k1 l1 (l0_2.length : Int) (y315.set (x21_1 : Int).toNat (⟨(rd_T46 y315 x21_1).f0, mn ((rd_T46 y310 x21_1).f1) (rd l1 x21_1)⟩ : S46)) (y304.length : Int) (wrap64 (x21_1 + 1)) a0_0 a0_1 l0_2 a0_3 a0_4)) else (impl_FlyPath_spans.l0 k1 l1 (l0_2.length : Int) y310 (y304.length : Int) (wrap64 (x21_1 + 1)) a0_0 a0_1 l0_2 a0_3 a0_4)) = some (r1, r2) := by first | (rw [hy310]; with_reducible exact H) | (have H2_ := (Option.bind_some _ _).symm.trans H; rw [hy310]; with_reducible exact H2_) | (have H2_ := (Option.bind_some _ _).symm.trans H; with_reducible exact H2_) | with_reducible exact H | (rw [hy310]; exact H) | exact H
    have Ny310 := zA hy310
    clear hy310
    by_cases c17 : x21_1 < (l1.length : Int)
    rotate_left
    ·rw [if_neg c17] at H
     have c17b0 : decide (x21_1 < (l1.length : Int)) = false := decide_eq_false c17
     clear c17
     have H' := zA H
     clear H
     obtain ⟨hcz31_0, hcz31_1, hcz31_2, hcz31_3, hcz31_4⟩ := zd5 BK303
     obtain ⟨hfz31_0, hfz31_1, hfz31_2, hfz31_3, hfz31_4⟩ := zn5 BK303
     go_wp2_with (first | ((with_reducible refine gate_callee (f := 67) rfl ?_); refine zgl (N := some 31) Try.func67 #[.agg #[.int .i64 a0_0, .int .i64 a0_1, .slice A0_2 l0_2.length c0_2, .int .i64 a0_3, .int .i64 a0_4], .int .i64 x21_1] ?_; (with_reducible refine (impl_FlyPath_bound.calls a0_0 a0_1 _ _ l0_2 a0_3 a0_4 x21_1 t307 t308 _ ?side1 ?side2 A12.out).mono ?_); (case side1 => exact zC HR0_2 HB); (case side2 => exact HC0_2.out); rintro e w32 ⟨rfl, hb⟩; refine ⟨_, rfl, ?_⟩; replace HO_7 := zA (Kd.R_below (zr HO_7) hb); replace BK303 := zb BK303 hb; replace HB := zE (zs1 HB GE303) hb; (try clear hb); (try clear hb2); (try clear hk); (try clear hi); have p15 : 0 ≤ (x21_1 : Int) := za; have q15 : (x21_1 : Int) < ((x7_1.length : Int) : Int) := za; obtain ⟨go15, co15, eo15, gb15, gl15, cl15, HG15⟩ := Kd.R_form HO_7.out (by omega); (first | cases eo15 | (injection eo15 with ea_ en_ ec_; (first | subst ea_ | (injection ea_ with ea_; subst ea_)); subst ec_; clear en_)); have GB15 := zA gb15; have GG15 := zA HG15; clear gb15 gl15 HG15; obtain ⟨ce15, hcl15, hM15, hcc15, hfr15⟩ := Kd.R_elem HO_7.out z46 (x21_1 : Int) p15 q15; obtain rfl := k46_openM hM15; have hx15_0 : w32.cell? ⟨go15, (x21_1 : Int).toNat * 2, none⟩ = some (.int .i64 ((rd_T46 x7_1 x21_1).f0)) := hcc15 0 _ rfl; have hx15_1 : w32.cell? ⟨go15, (x21_1 : Int).toNat * 2 + 1, none⟩ = some (.int .i64 ((rd_T46 x7_1 x21_1).f1)) := hcc15 1 _ rfl; have hf15_0 : w32.frozen? ⟨go15, (x21_1 : Int).toNat * 2, none⟩ = false := hfr15 0; have hf15_1 : w32.frozen? ⟨go15, (x21_1 : Int).toNat * 2 + 1, none⟩ = false := hfr15 1; clear hcl15 hcc15 hfr15 hM15; replace p15 := eq_true p15; replace q15 := eq_true q15; have HX33 := zA (show Kd.R k46 46 w32 w.heap.size (fun _ => True) (.slice (some ⟨go15, 0, none⟩) x7_1.length co10) x7_1 from (zr HO_7)); obtain ⟨ce33, hcl33, hM33, hcc33, hfr33⟩ := Kd.R_elem HX33.out z46 (x21_1 : Int) (za) (by have h_ : (x21_1 : Int) < ((x7_1.length : Int) : Int) := za; first | exact h_ | (have e_ := (Kd.R_reads' HO_7.out).1; omega) | simpa using h_); obtain rfl := k46_openM hM33; have HP33 := Kd.R_seg HX33.out (x21_1 : Int) (za) (by have h_ : (x21_1 : Int) < ((x7_1.length : Int) : Int) := za; first | exact h_ | (have e_ := (Kd.R_reads' HO_7.out).1; omega) | simpa using h_) (seg := [.int .i64 t307]) (j := 0) hcl33 hcc33 (show 1 ≤ 2 from by decide) (x' := (⟨t307, (rd_T46 x7_1 x21_1).f1⟩ : S46)) (k46_mkM _ _ _ (⟨t307, (rd_T46 x7_1 x21_1).f1⟩ : S46) ) (fun _ hk => hk); have hx33_0 := hcc33 0 _ rfl; (try simp only [show (k46).sz = 2 from rfl, Nat.mul_one, Nat.add_zero] at hx33_0); have hf33_0 := hfr33 0; (try simp only [show (k46).sz = 2 from rfl, Nat.mul_one, Nat.add_zero] at hf33_0); clear hcl33 hcc33 hfr33 hM33) | ((with_reducible refine gate_store (t := 3) (p := 35) rfl ?_); refine store_event (t := 3) (p := 35) (v := ?vo_w34) (w1 := (w32.setCell ⟨go15, (x21_1 : Int).toNat * 2, none⟩ (.int .i64 t307))) ?hg ?ho ?hn ?hr ?_; (case ho => rfl); (case hg => rfl); (case hn => rfl); (case hr => first | (go_simp; done) | (go_simp; rfl)); intro w34 hw; have hg : w32.grownBy w34 (some go15) := (by rw [hw]; exact HP33.2); have hp_ : Kd.R k46 46 w34 w.heap.size (fun _ => True) (.slice (some ⟨go15, 0, none⟩) x7_1.length co10) y309 := (by rw [hw, Ny309.out]; exact HP33.1); clear HP33; replace BK303 := zA (blk_grown (g := gb303) (o := .cells #[.int .i64 a0_0, .int .i64 a0_1, .slice A0_2 l0_2.length c0_2, .int .i64 a0_3, .int .i64 a0_4] 34 (0, 0)) (zh BK303) hg (Kd.R_ne HO_7.out BK303.out (by decide))); replace HO_7 := zA (hp_); replace HB := zA ((by rw [hw]; exact below_set (HB.out) GB15.out : Below w.heap.size w w34)); clear hg hw hp_; have p16 : 0 ≤ (x21_1 : Int) := za; have q16 : (x21_1 : Int) < ((x7_1.length : Int) : Int) := za; obtain ⟨ce16, hcl16, hM16, hcc16, hfr16⟩ := Kd.R_elem HO_7.out z46 (x21_1 : Int) p16 q16; obtain rfl := k46_openM hM16; have hx16_0 : w34.cell? ⟨go15, (x21_1 : Int).toNat * 2, none⟩ = some (.int .i64 ((rd_T46 y309 x21_1).f0)) := hcc16 0 _ rfl; have hx16_1 : w34.cell? ⟨go15, (x21_1 : Int).toNat * 2 + 1, none⟩ = some (.int .i64 ((rd_T46 y309 x21_1).f1)) := hcc16 1 _ rfl; have hf16_0 : w34.frozen? ⟨go15, (x21_1 : Int).toNat * 2, none⟩ = false := hfr16 0; have hf16_1 : w34.frozen? ⟨go15, (x21_1 : Int).toNat * 2 + 1, none⟩ = false := hfr16 1; clear hcl16 hcc16 hfr16 hM16; replace p16 := eq_true p16; replace q16 := eq_true q16; have HX35 := zA (show Kd.R k46 46 w34 w.heap.size (fun _ => True) (.slice (some ⟨go15, 0, none⟩) x7_1.length co10) y309 from (zr HO_7)); obtain ⟨ce35, hcl35, hM35, hcc35, hfr35⟩ := Kd.R_elem HX35.out z46 (x21_1 : Int) (za) (by have h_ : (x21_1 : Int) < ((x7_1.length : Int) : Int) := za; first | exact h_ | (have e_ := (Kd.R_reads' HO_7.out).1; omega) | simpa using h_); obtain rfl := k46_openM hM35; have HP35 := Kd.R_seg HX35.out (x21_1 : Int) (za) (by have h_ : (x21_1 : Int) < ((x7_1.length : Int) : Int) := za; first | exact h_ | (have e_ := (Kd.R_reads' HO_7.out).1; omega) | simpa using h_) (seg := [.int .i64 t308]) (j := 1) hcl35 hcc35 (show 2 ≤ 2 from by decide) (x' := (⟨(rd_T46 y309 x21_1).f0, t308⟩ : S46)) (k46_mkM _ _ _ (⟨(rd_T46 y309 x21_1).f0, t308⟩ : S46) ) (fun _ hk => hk); have hx35_1 := hcc35 1 _ rfl; (try simp only [show (k46).sz = 2 from rfl, Nat.mul_one, Nat.add_zero] at hx35_1); have hf35_1 := hfr35 1; (try simp only [show (k46).sz = 2 from rfl, Nat.mul_one, Nat.add_zero] at hf35_1); clear hcl35 hcc35 hfr35 hM35) | ((with_reducible refine gate_store (t := 3) (p := 37) rfl ?_); refine store_event (t := 3) (p := 37) (v := ?vo_w36) (w1 := (w34.setCell ⟨go15, (x21_1 : Int).toNat * 2 + 1, none⟩ (.int .i64 t308))) ?hg ?ho ?hn ?hr ?_; (case ho => rfl); (case hg => rfl); (case hn => rfl); (case hr => first | (go_simp; done) | (go_simp; rfl)); intro w36 hw; have hg : w34.grownBy w36 (some go15) := (by rw [hw]; exact HP35.2); have hp_ : Kd.R k46 46 w36 w.heap.size (fun _ => True) (.slice (some ⟨go15, 0, none⟩) x7_1.length co10) y310 := (by rw [hw, Ny310.out]; exact HP35.1); clear HP35; replace BK303 := zA (blk_grown (g := gb303) (o := .cells #[.int .i64 a0_0, .int .i64 a0_1, .slice A0_2 l0_2.length c0_2, .int .i64 a0_3, .int .i64 a0_4] 34 (0, 0)) (zh BK303) hg (Kd.R_ne HO_7.out BK303.out (by decide))); replace HO_7 := zA (hp_); replace HB := zA ((by rw [hw]; exact below_set (HB.out) GB15.out : Below w.heap.size w w36)); clear hg hw hp_))
     (try simp only [← hl7_1])
     go_roundg k1
     case measure => have := HK1.out; omega
     case rel => exact ⟨(y310), (wrap64 (x21_1 + 1)), zi, H', ⟨by have := HK1.out; omega⟩, ⟨by (try simp only [hl7_1]); (with_reducible repeat (first | apply Kd.R_alloc | apply Kd.R_drewN | apply Kd.R_drew)); exact HO_7.out⟩, ⟨by (try simp only [hl7_1]); (with_reducible repeat (first | refine blk_drewN ?_ _ | refine blk_drew ?_ | refine blk_alloc ?_ _)); exact BK303.out⟩, ⟨zs1 HB GE303⟩⟩
    rw [if_pos c17] at H
    have c17b0 : decide (x21_1 < (l1.length : Int)) = true := decide_eq_true c17
    clear c17
    obtain ⟨ji18, hji18⟩ : ∃ j_ : Int, (mx ((rd_T46 y310 x21_1).f0) (rd l1 x21_1)) = j_ := ⟨_, rfl⟩
    first | rw [hji18] at H | simp only [hji18] at H
    (try rw [hji18] at A12)
    have hji18_ : (if ((rd_T46 y310 x21_1).f0) < (rd l1 x21_1) then (rd l1 x21_1) else ((rd_T46 y310 x21_1).f0)) = ji18 := hji18
    obtain ⟨ji19, hji19⟩ : ∃ j_ : Int, (mn ((rd_T46 y310 x21_1).f1) (rd l1 x21_1)) = j_ := ⟨_, rfl⟩
    first | rw [hji19] at H | simp only [hji19] at H
    (try rw [hji19] at A12)
    have hji19_ : (if (rd l1 x21_1) < ((rd_T46 y310 x21_1).f1) then (rd l1 x21_1) else ((rd_T46 y310 x21_1).f1)) = ji19 := hji19
    obtain ⟨y315, hy315⟩ : ∃ y_ : List (S46), y_ = (y310.set (x21_1 : Int).toNat (⟨ji18, (rd_T46 y310 x21_1).f1⟩ : S46)) := ⟨_, rfl⟩
    replace H : (impl_FlyPath_spans.l0 k1 l1 (l0_2.length : Int) (y315.set (x21_1 : Int).toNat (⟨(rd_T46 y315 x21_1).f0, ji19⟩ : S46)) (y304.length : Int) (wrap64 (x21_1 + 1)) a0_0 a0_1 l0_2 a0_3 a0_4) = some (r1, r2) := by first | (rw [hy315]; with_reducible exact H) | (have H2_ := (Option.bind_some _ _).symm.trans H; rw [hy315]; with_reducible exact H2_) | (have H2_ := (Option.bind_some _ _).symm.trans H; with_reducible exact H2_) | with_reducible exact H | (rw [hy315]; exact H) | exact H
    have Ny315 := zA hy315
    clear hy315
    obtain ⟨y316, hy316⟩ : ∃ y_ : List (S46), y_ = (y315.set (x21_1 : Int).toNat (⟨(rd_T46 y315 x21_1).f0, ji19⟩ : S46)) := ⟨_, rfl⟩
    replace H : (impl_FlyPath_spans.l0 k1 l1 (l0_2.length : Int) y316 (y304.length : Int) (wrap64 (x21_1 + 1)) a0_0 a0_1 l0_2 a0_3 a0_4) = some (r1, r2) := by first | (rw [hy316]; with_reducible exact H) | (have H2_ := (Option.bind_some _ _).symm.trans H; rw [hy316]; with_reducible exact H2_) | (have H2_ := (Option.bind_some _ _).symm.trans H; with_reducible exact H2_) | with_reducible exact H | (rw [hy316]; exact H) | exact H
    have Ny316 := zA hy316
    clear hy316
    have H' := zA H
    clear H
    obtain ⟨hcz22_0, hcz22_1, hcz22_2, hcz22_3, hcz22_4⟩ := zd5 BK303
    obtain ⟨hfz22_0, hfz22_1, hfz22_2, hfz22_3, hfz22_4⟩ := zn5 BK303
    try go_wp2_with (first | ((with_reducible refine gate_callee (f := 67) rfl ?_); refine zgl (N := some 31) Try.func67 #[.agg #[.int .i64 a0_0, .int .i64 a0_1, .slice A0_2 l0_2.length c0_2, .int .i64 a0_3, .int .i64 a0_4], .int .i64 x21_1] ?_; (with_reducible refine (impl_FlyPath_bound.calls a0_0 a0_1 _ _ l0_2 a0_3 a0_4 x21_1 t307 t308 _ ?side1 ?side2 A12.out).mono ?_); (case side1 => exact zC HR0_2 HB); (case side2 => exact HC0_2.out); rintro e w23 ⟨rfl, hb⟩; refine ⟨_, rfl, ?_⟩; replace HO_7 := zA (Kd.R_below (zr HO_7) hb); replace BK303 := zb BK303 hb; replace HB := zE (zs1 HB GE303) hb; (try clear hb); (try clear hb2); (try clear hk); (try clear hi); have p15 : 0 ≤ (x21_1 : Int) := za; have q15 : (x21_1 : Int) < ((x7_1.length : Int) : Int) := za; obtain ⟨go15, co15, eo15, gb15, gl15, cl15, HG15⟩ := Kd.R_form HO_7.out (by omega); (first | cases eo15 | (injection eo15 with ea_ en_ ec_; (first | subst ea_ | (injection ea_ with ea_; subst ea_)); subst ec_; clear en_)); have GB15 := zA gb15; have GG15 := zA HG15; clear gb15 gl15 HG15; obtain ⟨ce15, hcl15, hM15, hcc15, hfr15⟩ := Kd.R_elem HO_7.out z46 (x21_1 : Int) p15 q15; obtain rfl := k46_openM hM15; have hx15_0 : w23.cell? ⟨go15, (x21_1 : Int).toNat * 2, none⟩ = some (.int .i64 ((rd_T46 x7_1 x21_1).f0)) := hcc15 0 _ rfl; have hx15_1 : w23.cell? ⟨go15, (x21_1 : Int).toNat * 2 + 1, none⟩ = some (.int .i64 ((rd_T46 x7_1 x21_1).f1)) := hcc15 1 _ rfl; have hf15_0 : w23.frozen? ⟨go15, (x21_1 : Int).toNat * 2, none⟩ = false := hfr15 0; have hf15_1 : w23.frozen? ⟨go15, (x21_1 : Int).toNat * 2 + 1, none⟩ = false := hfr15 1; clear hcl15 hcc15 hfr15 hM15; replace p15 := eq_true p15; replace q15 := eq_true q15; have HX24 := zA (show Kd.R k46 46 w23 w.heap.size (fun _ => True) (.slice (some ⟨go15, 0, none⟩) x7_1.length co10) x7_1 from (zr HO_7)); obtain ⟨ce24, hcl24, hM24, hcc24, hfr24⟩ := Kd.R_elem HX24.out z46 (x21_1 : Int) (za) (by have h_ : (x21_1 : Int) < ((x7_1.length : Int) : Int) := za; first | exact h_ | (have e_ := (Kd.R_reads' HO_7.out).1; omega) | simpa using h_); obtain rfl := k46_openM hM24; have HP24 := Kd.R_seg HX24.out (x21_1 : Int) (za) (by have h_ : (x21_1 : Int) < ((x7_1.length : Int) : Int) := za; first | exact h_ | (have e_ := (Kd.R_reads' HO_7.out).1; omega) | simpa using h_) (seg := [.int .i64 t307]) (j := 0) hcl24 hcc24 (show 1 ≤ 2 from by decide) (x' := (⟨t307, (rd_T46 x7_1 x21_1).f1⟩ : S46)) (k46_mkM _ _ _ (⟨t307, (rd_T46 x7_1 x21_1).f1⟩ : S46) ) (fun _ hk => hk); have hx24_0 := hcc24 0 _ rfl; (try simp only [show (k46).sz = 2 from rfl, Nat.mul_one, Nat.add_zero] at hx24_0); have hf24_0 := hfr24 0; (try simp only [show (k46).sz = 2 from rfl, Nat.mul_one, Nat.add_zero] at hf24_0); clear hcl24 hcc24 hfr24 hM24) | ((with_reducible refine gate_store (t := 3) (p := 35) rfl ?_); refine store_event (t := 3) (p := 35) (v := ?vo_w25) (w1 := (w23.setCell ⟨go15, (x21_1 : Int).toNat * 2, none⟩ (.int .i64 t307))) ?hg ?ho ?hn ?hr ?_; (case ho => rfl); (case hg => rfl); (case hn => rfl); (case hr => first | (go_simp; done) | (go_simp; rfl)); intro w25 hw; have hg : w23.grownBy w25 (some go15) := (by rw [hw]; exact HP24.2); have hp_ : Kd.R k46 46 w25 w.heap.size (fun _ => True) (.slice (some ⟨go15, 0, none⟩) x7_1.length co10) y309 := (by rw [hw, Ny309.out]; exact HP24.1); clear HP24; replace BK303 := zA (blk_grown (g := gb303) (o := .cells #[.int .i64 a0_0, .int .i64 a0_1, .slice A0_2 l0_2.length c0_2, .int .i64 a0_3, .int .i64 a0_4] 34 (0, 0)) (zh BK303) hg (Kd.R_ne HO_7.out BK303.out (by decide))); replace HO_7 := zA (hp_); replace HB := zA ((by rw [hw]; exact below_set (HB.out) GB15.out : Below w.heap.size w w25)); clear hg hw hp_; have p16 : 0 ≤ (x21_1 : Int) := za; have q16 : (x21_1 : Int) < ((x7_1.length : Int) : Int) := za; obtain ⟨ce16, hcl16, hM16, hcc16, hfr16⟩ := Kd.R_elem HO_7.out z46 (x21_1 : Int) p16 q16; obtain rfl := k46_openM hM16; have hx16_0 : w25.cell? ⟨go15, (x21_1 : Int).toNat * 2, none⟩ = some (.int .i64 ((rd_T46 y309 x21_1).f0)) := hcc16 0 _ rfl; have hx16_1 : w25.cell? ⟨go15, (x21_1 : Int).toNat * 2 + 1, none⟩ = some (.int .i64 ((rd_T46 y309 x21_1).f1)) := hcc16 1 _ rfl; have hf16_0 : w25.frozen? ⟨go15, (x21_1 : Int).toNat * 2, none⟩ = false := hfr16 0; have hf16_1 : w25.frozen? ⟨go15, (x21_1 : Int).toNat * 2 + 1, none⟩ = false := hfr16 1; clear hcl16 hcc16 hfr16 hM16; replace p16 := eq_true p16; replace q16 := eq_true q16; have HX26 := zA (show Kd.R k46 46 w25 w.heap.size (fun _ => True) (.slice (some ⟨go15, 0, none⟩) x7_1.length co10) y309 from (zr HO_7)); obtain ⟨ce26, hcl26, hM26, hcc26, hfr26⟩ := Kd.R_elem HX26.out z46 (x21_1 : Int) (za) (by have h_ : (x21_1 : Int) < ((x7_1.length : Int) : Int) := za; first | exact h_ | (have e_ := (Kd.R_reads' HO_7.out).1; omega) | simpa using h_); obtain rfl := k46_openM hM26; have HP26 := Kd.R_seg HX26.out (x21_1 : Int) (za) (by have h_ : (x21_1 : Int) < ((x7_1.length : Int) : Int) := za; first | exact h_ | (have e_ := (Kd.R_reads' HO_7.out).1; omega) | simpa using h_) (seg := [.int .i64 t308]) (j := 1) hcl26 hcc26 (show 2 ≤ 2 from by decide) (x' := (⟨(rd_T46 y309 x21_1).f0, t308⟩ : S46)) (k46_mkM _ _ _ (⟨(rd_T46 y309 x21_1).f0, t308⟩ : S46) ) (fun _ hk => hk); have hx26_1 := hcc26 1 _ rfl; (try simp only [show (k46).sz = 2 from rfl, Nat.mul_one, Nat.add_zero] at hx26_1); have hf26_1 := hfr26 1; (try simp only [show (k46).sz = 2 from rfl, Nat.mul_one, Nat.add_zero] at hf26_1); clear hcl26 hcc26 hfr26 hM26) | ((with_reducible refine gate_store (t := 3) (p := 37) rfl ?_); refine store_event (t := 3) (p := 37) (v := ?vo_w27) (w1 := (w25.setCell ⟨go15, (x21_1 : Int).toNat * 2 + 1, none⟩ (.int .i64 t308))) ?hg ?ho ?hn ?hr ?_; (case ho => rfl); (case hg => rfl); (case hn => rfl); (case hr => first | (go_simp; done) | (go_simp; rfl)); intro w27 hw; have hg : w25.grownBy w27 (some go15) := (by rw [hw]; exact HP26.2); have hp_ : Kd.R k46 46 w27 w.heap.size (fun _ => True) (.slice (some ⟨go15, 0, none⟩) x7_1.length co10) y310 := (by rw [hw, Ny310.out]; exact HP26.1); clear HP26; replace BK303 := zA (blk_grown (g := gb303) (o := .cells #[.int .i64 a0_0, .int .i64 a0_1, .slice A0_2 l0_2.length c0_2, .int .i64 a0_3, .int .i64 a0_4] 34 (0, 0)) (zh BK303) hg (Kd.R_ne HO_7.out BK303.out (by decide))); replace HO_7 := zA (hp_); replace HB := zA ((by rw [hw]; exact below_set (HB.out) GB15.out : Below w.heap.size w w27)); clear hg hw hp_))
    replace HO_7 := zA (Kd.R_drew HO_7.out)
    replace BK303 := zA (blk_drew BK303.out)
    replace HB := zA (below_drew1 HB.out)
    have p311 : 0 ≤ (x21_1 : Int) := za
    have q311 : x21_1 < (y310.length : Int) := (by have h_ : (x21_1 : Int) < ((x7_1.length : Int) : Int) := za; first | (have e_ := (Kd.R_reads' HO_7.out).1; omega) | simpa only [Ny309.out, Ny310.out, List.length_set] using h_)
    have ql311 : ((x21_1 : Int) < ((x7_1.length : Int) : Int)) = True := eq_true (za)
    obtain ⟨ad311, e311, hx311_0, hx311_1⟩ := at_T46 (Kd.R_reads' HO_7.out).2.2 x21_1 p311 q311
    obtain rfl : (⟨go15, 0, none⟩ : Addr) = ad311 := (by injection e311)
    (first | simp only [add_plain] at hx311_0 | simp only [add_at] at hx311_0 | simp only [Addr.add, Nat.zero_add] at hx311_0 | skip)
    (first | simp only [add_plain] at hx311_1 | simp only [add_at] at hx311_1 | simp only [Addr.add, Nat.zero_add] at hx311_1 | skip)
    replace p311 := eq_true p311
    replace q311 := eq_true q311
    have p312 : 0 ≤ (x21_1 : Int) := za
    have q312 : x21_1 < (l1.length : Int) := za
    obtain ⟨ad312, e312, hx312_0⟩ := Kd.at_int HR1.out x21_1 p312 q312
    have hw312_0 := hx312_0
    cases e312
    replace hx312_0 := zx HB hx312_0
    replace p312 := eq_true p312
    replace q312 := eq_true q312
    have p313 : 0 ≤ (x21_1 : Int) := za
    have q313 : x21_1 < (y310.length : Int) := (by have h_ : (x21_1 : Int) < ((x7_1.length : Int) : Int) := za; first | (have e_ := (Kd.R_reads' HO_7.out).1; omega) | simpa only [Ny309.out, Ny310.out, List.length_set] using h_)
    have ql313 : ((x21_1 : Int) < ((x7_1.length : Int) : Int)) = True := eq_true (za)
    obtain ⟨ad313, e313, hx313_0, hx313_1⟩ := at_T46 (Kd.R_reads' HO_7.out).2.2 x21_1 p313 q313
    obtain rfl : (⟨go15, 0, none⟩ : Addr) = ad313 := (by injection e313)
    (first | simp only [add_plain] at hx313_0 | simp only [add_at] at hx313_0 | simp only [Addr.add, Nat.zero_add] at hx313_0 | skip)
    (first | simp only [add_plain] at hx313_1 | simp only [add_at] at hx313_1 | simp only [Addr.add, Nat.zero_add] at hx313_1 | skip)
    replace p313 := eq_true p313
    replace q313 := eq_true q313
    have p314 : 0 ≤ (x21_1 : Int) := za
    have q314 : x21_1 < (l1.length : Int) := za
    obtain ⟨ad314, e314, hx314_0⟩ := Kd.at_int HR1.out x21_1 p314 q314
    have hw314_0 := hx314_0
    obtain rfl : ad312 = ad314 := (by injection e314)
    replace hx314_0 := zx HB hx314_0
    replace p314 := eq_true p314
    replace q314 := eq_true q314
    have p20 : 0 ≤ (x21_1 : Int) := za
    have q20 : (x21_1 : Int) < ((x7_1.length : Int) : Int) := za
    obtain ⟨ce20, hcl20, hM20, hcc20, hfr20⟩ := Kd.R_elem HO_7.out z46 (x21_1 : Int) p20 q20
    obtain rfl := k46_openM hM20
    have hx20_0 : World.cell? _ ⟨go15, (x21_1 : Int).toNat * 2, none⟩ = some (.int .i64 ((rd_T46 y310 x21_1).f0)) := hcc20 0 _ rfl
    have hx20_1 : World.cell? _ ⟨go15, (x21_1 : Int).toNat * 2 + 1, none⟩ = some (.int .i64 ((rd_T46 y310 x21_1).f1)) := hcc20 1 _ rfl
    have hf20_0 : World.frozen? _ ⟨go15, (x21_1 : Int).toNat * 2, none⟩ = false := hfr20 0
    have hf20_1 : World.frozen? _ ⟨go15, (x21_1 : Int).toNat * 2 + 1, none⟩ = false := hfr20 1
    clear hcl20 hcc20 hfr20 hM20
    replace p20 := eq_true p20
    replace q20 := eq_true q20
    obtain ⟨ce29, hcl29, hM29, hcc29, hfr29⟩ := Kd.R_elem HO_7.out z46 (x21_1 : Int) (za) (by have h_ : (x21_1 : Int) < ((x7_1.length : Int) : Int) := za; first | exact h_ | (have e_ := (Kd.R_reads' HO_7.out).1; omega) | simpa using h_)
    obtain rfl := k46_openM hM29
    have HP29 := (Kd.R_seg HO_7.out (x21_1 : Int) (za) (by have h_ : (x21_1 : Int) < ((x7_1.length : Int) : Int) := za; first | exact h_ | (have e_ := (Kd.R_reads' HO_7.out).1; omega) | simpa using h_) (seg := [.int .i64 ji18]) (j := 0) hcl29 hcc29 (show 1 ≤ 2 from by decide) (x' := (⟨ji18, (rd_T46 y310 x21_1).f1⟩ : S46)) (k46_mkM _ _ _ (⟨ji18, (rd_T46 y310 x21_1).f1⟩ : S46) ) (fun _ hk => hk)).1
    rw [← Ny315.out] at HP29
    have HQ29 := zA HP29
    clear hcl29 hcc29 hfr29 hM29 HP29
    have p21 : 0 ≤ (x21_1 : Int) := za
    have q21 : (x21_1 : Int) < ((x7_1.length : Int) : Int) := za
    replace p21 := eq_true p21
    replace q21 := eq_true q21
    obtain ⟨ce30, hcl30, hM30, hcc30, hfr30⟩ := Kd.R_elem HQ29.out z46 (x21_1 : Int) (za) (by have h_ : (x21_1 : Int) < ((x7_1.length : Int) : Int) := za; first | exact h_ | (have e_ := (Kd.R_reads' HO_7.out).1; omega) | simpa using h_)
    obtain rfl := k46_openM hM30
    have HP30 := (Kd.R_seg HQ29.out (x21_1 : Int) (za) (by have h_ : (x21_1 : Int) < ((x7_1.length : Int) : Int) := za; first | exact h_ | (have e_ := (Kd.R_reads' HO_7.out).1; omega) | simpa using h_) (seg := [.int .i64 ji19]) (j := 1) hcl30 hcc30 (show 2 ≤ 2 from by decide) (x' := (⟨(rd_T46 y315 x21_1).f0, ji19⟩ : S46)) (k46_mkM _ _ _ (⟨(rd_T46 y315 x21_1).f0, ji19⟩ : S46) ) (fun _ hk => hk)).1
    rw [← Ny316.out] at HP30
    have HQ30 := zA HP30
    clear hcl30 hcc30 hfr30 hM30 HP30
    refine start_ (n := 30) (S := fun w' => w'.cell? ⟨go15, (x21_1).toNat * 2, none⟩ = some (.int .i64 ((rd_T46 y310 x21_1).f0)) ∧ w'.cell? ⟨go15, (x21_1).toNat * 2 + 1, none⟩ = some (.int .i64 ((rd_T46 y310 x21_1).f1)) ∧ w'.cell? (ad312.add (x21_1).toNat) = some (.int .i64 (rd l1 x21_1)) ∧ w'.cell? ⟨go15, (x21_1).toNat * 2, none⟩ = some (.int .i64 ((rd_T46 y310 x21_1).f0)) ∧ w'.cell? ⟨go15, (x21_1).toNat * 2 + 1, none⟩ = some (.int .i64 ((rd_T46 y310 x21_1).f1)) ∧ w'.cell? (ad312.add (x21_1).toNat) = some (.int .i64 (rd l1 x21_1))) (ds := [26, 29]) #[F,F,F,F,F,F,F,F,F,F,F,F,F,F,F,F,F,F,F,F,F,F,F,F,F,F,F,F,F,F] (by kernel_rfl) rfl rfl ⟨hx311_0, hx311_1, (zw HB hw312_0), hx313_0, hx313_1, (zw HB hw314_0)⟩ (fun hHeld => ?_); refine with_tabW impl_FlyPath_spans.tab8 impl_FlyPath_spans.bits8 (fun HT_ HW_ => ?_)
    generalize w27.drew = w28 at HO_7 BK303 HB HQ29 HQ30 hf20_0 hf20_1 hx20_0 hx20_1 hx311_0 hx311_1 hx312_0 hx313_0 hx313_1 hx314_0 hHeld ⊢
    refine zq HT_ 0 ?_
    refine zq HT_ 1 ?_
    refine zq HT_ 2 ?_
    refine zq HT_ 3 ?_
    refine zq HT_ 4 ?_
    refine zq HT_ 5 ?_
    refine zq HT_ 6 ?_
    refine zq HT_ 7 ?_
    refine zq HT_ 9 ?_
    refine zq HT_ 10 ?_
    refine zq HT_ 11 ?_
    refine zq HT_ 14 ?_
    refine zq HT_ 15 ?_
    refine zq HT_ 16 ?_
    refine zq HT_ 17 ?_
    refine zq HT_ 19 ?_
    refine zq HT_ 20 ?_
    refine zq HT_ 21 ?_
    refine zk6 HT_ HW_ hHeld 8 ?_
    refine zk6 HT_ HW_ hHeld 12 ?_
    refine zq HT_ 13 ?_
    refine zk6 HT_ HW_ hHeld 18 ?_
    refine zk6 HT_ HW_ hHeld 22 ?_
    refine zq HT_ 23 ?_
    refine zq HT_ 24 ?_
    refine zq HT_ 25 ?_
    refine zO HT_ 26 (fun K hK => ?_)
    refine skip_ (w1 := ?_) (by rfl) rfl ?_ ?_
    rotate_left
    ·go_simp
     rfl
    refine hK.out _ _ ?_
    clear hK K
    refine zq HT_ 27 ?_
    refine zq HT_ 28 ?_
    refine zO HT_ 29 (fun K hK => ?_)
    refine skip_ (w1 := ?_) (by rfl) rfl ?_ ?_
    rotate_left
    ·go_simp
     rfl
    refine hK.out _ _ ?_
    clear hK K
    refine done_ (done_of HT_.out (by kernel_rfl)) ?_
    try go_wp2
    (try simp only [← hl7_1])
    go_roundg k1
    case measure => have := HK1.out; omega
    case rel => exact ⟨(y316), (wrap64 (x21_1 + 1)), zi, H', ⟨by have := HK1.out; omega⟩, ⟨by (try simp only [hl7_1]); (with_reducible repeat (first | apply Kd.R_alloc | apply Kd.R_drewN | apply Kd.R_drew)); exact HQ30.out⟩, ⟨by (try simp only [hl7_1]); (with_reducible repeat (first | refine blk_drewN ?_ _ | refine blk_drew ?_ | refine blk_alloc ?_ _)); refine blk_far ?_ (by have h_ := Kd.R_ne HO_7.out BK303.out (by decide); intro e_; exact h_ (by rw [e_]; rfl)) _; (with_reducible repeat (first | refine blk_drewN ?_ _ | refine blk_drew ?_ | refine blk_alloc ?_ _)); refine blk_far ?_ (by have h_ := Kd.R_ne HO_7.out BK303.out (by decide); intro e_; exact h_ (by rw [e_]; rfl)) _; (with_reducible repeat (first | refine blk_drewN ?_ _ | refine blk_drew ?_ | refine blk_alloc ?_ _)); exact BK303.out⟩, ⟨by repeat (first | (with_reducible first | exact HB.out | apply below_alloc | apply pw_below_drewN | apply below_drew1 | refine below_set ?_ GB15.out | refine below_set ?_ GB15.out | refine below_set ?_ GE303.out) | exact HB.out)⟩⟩
   rw [if_neg c11] at H
   have c11b0 : decide (x21_1 < (y304.length : Int)) = false := decide_eq_false c11
   (try rw [hl7_1] at c11b0)
   (try rw [hl7_2] at c11b0)
   (try rw [hl7_3] at c11b0)
   clear c11
   have H' := zA H
   clear H
   go_wp2
   go_loopg [9] k1 (fun kq v9 w' => ∃ (x7_2 : List (S46)) (x9_2 : Int), v9 = .int .i64 x9_2 ∧ Aside0 (impl_FlyPath_spans.l1 kq (l0_2.length : Int) x7_2 x9_2 a0_0 a0_1 l0_2 a0_3 a0_4 = some (r1, r2)) ∧ Aside0 (kq ≤ k1) ∧ Aside0 (Kd.R k46 46 w' w.heap.size (fun _ => True) (.slice Ao10 x7_1.length co10) x7_2) ∧ Aside0 (w'.heap[gb303]? = some (.cells #[.int .i64 a0_0, .int .i64 a0_1, (.slice A0_2 l0_2.length c0_2), .int .i64 a0_3, .int .i64 a0_4] 34 (0, 0))) ∧ Aside0 (Below w.heap.size w w'))
   case atStart => exact ⟨(x7_1), (1), zi, H', ⟨Nat.le_refl _⟩, ⟨by (try simp only [hl7_1]); (with_reducible repeat (first | apply Kd.R_alloc | apply Kd.R_drewN | apply Kd.R_drew)); exact HO_7.out⟩, ⟨by (try simp only [hl7_1]); (with_reducible repeat (first | refine blk_drewN ?_ _ | refine blk_drew ?_ | refine blk_alloc ?_ _)); exact BK303.out⟩, ⟨zs1 HB GE303⟩⟩
   case round =>
    clear H'
    try clear c1
    try clear p1
    try clear q1
    try clear hx1
    try clear c2
    try clear p2
    try clear q2
    try clear hx2
    try clear hf2
    try clear c3
    try clear p3
    try clear q3
    try clear hx3
    try clear hf3
    try clear c4
    try clear c4b0
    try clear c4b1
    try clear c5
    try clear c5b0
    try clear c5b1
    try clear c6
    try clear p6
    try clear c11
    try clear c11b0
    try clear c13
    try clear c13b0
    try clear c14
    try clear c14b0
    try clear c15
    try clear p15
    try clear q15
    try clear hx15
    try clear hf15
    try clear c16
    try clear p16
    try clear q16
    try clear hx16
    try clear hf16
    try clear c17
    try clear c17b0
    try clear c20
    try clear p20
    try clear q20
    try clear hx20
    try clear hf20
    try clear p21
    try clear q21
    try clear c24
    try clear hx24
    try clear hf24
    try clear c26
    try clear hx26
    try clear hf26
    try clear c29
    try clear c30
    try clear p31
    try clear q31
    try clear hx31
    try clear c33
    try clear hx33
    try clear hf33
    try clear c35
    try clear hx35
    try clear hf35
    try clear hcz22_0 hcz22_1 hcz22_2 hcz22_3 hcz22_4
    try clear hcz31_0 hcz31_1 hcz31_2 hcz31_3 hcz31_4
    try clear hcz7_0 hcz7_1 hcz7_2 hcz7_3 hcz7_4
    try clear hfz22_0 hfz22_1 hfz22_2 hfz22_3 hfz22_4
    try clear hfz31_0 hfz31_1 hfz31_2 hfz31_3 hfz31_4
    try clear hfz7_0 hfz7_1 hfz7_2 hfz7_3 hfz7_4
    try clear hx15_0
    try clear hx15_1
    try clear hx16_0
    try clear hx16_1
    try clear hx20_0
    try clear hx20_1
    try clear hx24_0
    try clear hx26_1
    try clear hx311_0
    try clear hx311_1
    try clear hx312_0
    try clear hx313_0
    try clear hx313_1
    try clear hx314_0
    try clear hx33_0
    try clear hx35_1
    try clear p15
    try clear p16
    try clear p2
    try clear p20
    try clear p21
    try clear p311
    try clear p312
    try clear p313
    try clear p314
    try clear p6
    try clear q15
    try clear q16
    try clear q20
    try clear q21
    try clear q311
    try clear q312
    try clear q313
    try clear q314
    obtain ⟨x7_2, x9_2, rfl, HA, HK2, HO_7, BK303, HB⟩ := hrel
    have hl7_2 := (Kd.R_reads' HO_7.out).1
    rw [hl7_2] at HO_7
    (try simp only [hl7_2])
    (try simp only [hl7_2] at BK303)
    cases gk with
    | zero => exact absurd HA.out (by simp [impl_FlyPath_spans.l1])
    | succ k2 =>
     have H := HA.out
     clear HA
     simp only [impl_FlyPath_spans.l1] at H
     by_cases c37 : x9_2 ≤ (l0_2.length : Int)
     ·rw [if_pos c37] at H
      have c37b0 : decide (x9_2 ≤ (l0_2.length : Int)) = true := decide_eq_true c37
      clear c37
      by_cases c38 : 0 ≤ x9_2
      rotate_left
      ·rw [if_neg c38] at H
       exact absurd H (by simp)
      rw [if_pos c38] at H
      have c38b0 : decide (0 ≤ x9_2) = true := decide_eq_true c38
      clear c38
      by_cases c39 : x9_2 < (x7_2.length : Int)
      rotate_left
      ·rw [if_neg c39] at H
       exact absurd H (by simp)
      rw [if_pos c39] at H
      have c39b0 : decide (x9_2 < (x7_2.length : Int)) = true := decide_eq_true c39
      clear c39
      obtain ⟨ji40, hji40⟩ : ∃ j_ : Int, (wrap64 (x9_2 - 1)) = j_ := ⟨_, rfl⟩
      first | rw [hji40] at H | simp only [hji40] at H
      have hji40w : (IntKind.i64.wrap (x9_2 - 1)) = ji40 := (i64_w _).trans hji40
      by_cases c41 : 0 ≤ (ji40)
      rotate_left
      ·rw [if_neg c41] at H
       exact absurd H (by simp)
      rw [if_pos c41] at H
      have c41b0 : decide (0 ≤ (ji40)) = true := decide_eq_true c41
      clear c41
      by_cases c42 : (ji40) < (x7_2.length : Int)
      rotate_left
      ·rw [if_neg c42] at H
       exact absurd H (by simp)
      rw [if_pos c42] at H
      have c42b0 : decide ((ji40) < (x7_2.length : Int)) = true := decide_eq_true c42
      clear c42
      obtain ⟨ji43, hji43⟩ : ∃ j_ : Int, (mx ((rd_T46 x7_2 x9_2).f0) (wrap64 (((rd_T46 x7_2 (ji40)).f0) + a0_0))) = j_ := ⟨_, rfl⟩
      first | rw [hji43] at H | simp only [hji43] at H
      have hji43_ : (if ((rd_T46 x7_2 x9_2).f0) < (wrap64 (((rd_T46 x7_2 (ji40)).f0) + a0_0)) then (wrap64 (((rd_T46 x7_2 (ji40)).f0) + a0_0)) else ((rd_T46 x7_2 x9_2).f0)) = ji43 := hji43
      obtain ⟨y319, hy319⟩ : ∃ y_ : List (S46), y_ = (x7_2.set (x9_2 : Int).toNat (⟨ji43, (rd_T46 x7_2 x9_2).f1⟩ : S46)) := ⟨_, rfl⟩
      replace H : (if (ji40) < (l0_2.length : Int) then (if ((rd_T88 l0_2 (ji40)).f6 = true) then (impl_FlyPath_spans.l1 k2 (l0_2.length : Int) y319 (wrap64 (x9_2 + 1)) a0_0 a0_1 l0_2 a0_3 a0_4) else (impl_FlyPath_spans.l1 k2 (l0_2.length : Int) (y319.set (x9_2 : Int).toNat (⟨(rd_T46 y319 x9_2).f0, mn ((rd_T46 y319 x9_2).f1) (wrap64 (((rd_T46 y319 (ji40)).f1) + a0_1))⟩ : S46)) (wrap64 (x9_2 + 1)) a0_0 a0_1 l0_2 a0_3 a0_4)) else (none)) = some (r1, r2) := by first | (rw [hy319]; with_reducible exact H) | (have H2_ := (Option.bind_some _ _).symm.trans H; rw [hy319]; with_reducible exact H2_) | (have H2_ := (Option.bind_some _ _).symm.trans H; with_reducible exact H2_) | with_reducible exact H | (rw [hy319]; exact H) | exact H
      have Ny319 := zA hy319
      clear hy319
      by_cases c45 : (ji40) < (l0_2.length : Int)
      rotate_left
      ·rw [if_neg c45] at H
       exact absurd H (by simp)
      rw [if_pos c45] at H
      have c45b0 : decide ((ji40) < (l0_2.length : Int)) = true := decide_eq_true c45
      clear c45
      obtain ⟨bq46, hbq46⟩ : ∃ b_ : Bool, b_ = ((rd_T88 l0_2 (ji40)).f6) := ⟨_, rfl⟩
      replace H : (if (bq46 = true) then (impl_FlyPath_spans.l1 k2 (l0_2.length : Int) y319 (wrap64 (x9_2 + 1)) a0_0 a0_1 l0_2 a0_3 a0_4) else (impl_FlyPath_spans.l1 k2 (l0_2.length : Int) (y319.set (x9_2 : Int).toNat (⟨(rd_T46 y319 x9_2).f0, mn ((rd_T46 y319 x9_2).f1) (wrap64 (((rd_T46 y319 (ji40)).f1) + a0_1))⟩ : S46)) (wrap64 (x9_2 + 1)) a0_0 a0_1 l0_2 a0_3 a0_4)) = some (r1, r2) := by rw [← hbq46] at H; exact H
      have Nbq46 := zA hbq46
      clear hbq46
      by_cases c47 : (bq46 = true)
      ·subst c47
       have H1 : (impl_FlyPath_spans.l1 k2 (l0_2.length : Int) y319 (wrap64 (x9_2 + 1)) a0_0 a0_1 l0_2 a0_3 a0_4) = some (r1, r2) := by rw [if_pos rfl] at H; exact H
       clear H
       have H := H1
       clear H1
       have H' := zA H
       clear H
       try go_wp2
       replace HO_7 := zA (Kd.R_drew HO_7.out)
       replace BK303 := zA (blk_drew BK303.out)
       replace HB := zA (below_drew1 HB.out)
       have p317 : 0 ≤ (x9_2 : Int) := za
       have q317 : x9_2 < (x7_2.length : Int) := za
       obtain ⟨ad317, e317, hx317_0, hx317_1⟩ := at_T46 (Kd.R_reads' HO_7.out).2.2 x9_2 p317 q317
       cases e317
       replace p317 := eq_true p317
       replace q317 := eq_true q317
       have p318 : 0 ≤ ((ji40) : Int) := za
       have q318 : (ji40) < (x7_2.length : Int) := za
       obtain ⟨ad318, e318, hx318_0, hx318_1⟩ := at_T46 (Kd.R_reads' HO_7.out).2.2 (ji40) p318 q318
       obtain rfl : ad317 = ad318 := (by injection e318)
       replace p318 := eq_true p318
       replace q318 := eq_true q318
       have p44 : 0 ≤ (x9_2 : Int) := za
       have q44 : (x9_2 : Int) < ((x7_2.length : Int) : Int) := za
       obtain ⟨go44, co44, eo44, gb44, gl44, cl44, HG44⟩ := Kd.R_form HO_7.out (by omega)
       (first | cases eo44 | (injection eo44 with ea_ en_ ec_; (first | subst ea_ | (injection ea_ with ea_; subst ea_)); subst ec_; clear en_))
       have GB44 := zA gb44
       have GG44 := zA HG44
       clear gb44 gl44 HG44
       (first | simp only [add_plain] at hx317_0 | skip)
       (first | simp only [add_plain] at hx317_1 | skip)
       (first | simp only [add_plain] at hx318_0 | skip)
       (first | simp only [add_plain] at hx318_1 | skip)
       obtain ⟨ce44, hcl44, hM44, hcc44, hfr44⟩ := Kd.R_elem HO_7.out z46 (x9_2 : Int) p44 q44
       obtain rfl := k46_openM hM44
       have hx44_0 : World.cell? _ ⟨go44, (x9_2 : Int).toNat * 2, none⟩ = some (.int .i64 ((rd_T46 x7_2 x9_2).f0)) := hcc44 0 _ rfl
       have hx44_1 : World.cell? _ ⟨go44, (x9_2 : Int).toNat * 2 + 1, none⟩ = some (.int .i64 ((rd_T46 x7_2 x9_2).f1)) := hcc44 1 _ rfl
       have hf44_0 : World.frozen? _ ⟨go44, (x9_2 : Int).toNat * 2, none⟩ = false := hfr44 0
       have hf44_1 : World.frozen? _ ⟨go44, (x9_2 : Int).toNat * 2 + 1, none⟩ = false := hfr44 1
       clear hcl44 hcc44 hfr44 hM44
       replace p44 := eq_true p44
       replace q44 := eq_true q44
       obtain ⟨ce49, hcl49, hM49, hcc49, hfr49⟩ := Kd.R_elem HO_7.out z46 (x9_2 : Int) (za) (by have h_ : (x9_2 : Int) < ((x7_2.length : Int) : Int) := za; first | exact h_ | (have e_ := (Kd.R_reads' HO_7.out).1; omega) | simpa using h_)
       obtain rfl := k46_openM hM49
       have HP49 := (Kd.R_seg HO_7.out (x9_2 : Int) (za) (by have h_ : (x9_2 : Int) < ((x7_2.length : Int) : Int) := za; first | exact h_ | (have e_ := (Kd.R_reads' HO_7.out).1; omega) | simpa using h_) (seg := [.int .i64 ji43]) (j := 0) hcl49 hcc49 (show 1 ≤ 2 from by decide) (x' := (⟨ji43, (rd_T46 x7_2 x9_2).f1⟩ : S46)) (k46_mkM _ _ _ (⟨ji43, (rd_T46 x7_2 x9_2).f1⟩ : S46) ) (fun _ hk => hk)).1
       rw [← Ny319.out] at HP49
       have HQ49 := zA HP49
       clear hcl49 hcc49 hfr49 hM49 HP49
       refine start_ (n := 21) (S := fun w' => w'.cell? ⟨gb303, 0, none⟩ = some (.int .i64 a0_0) ∧ w'.cell? ⟨gb303, 1, none⟩ = some (.int .i64 a0_1) ∧ w'.cell? ⟨gb303, 2, none⟩ = some (.slice A0_2 l0_2.length c0_2) ∧ w'.cell? ⟨gb303, 3, none⟩ = some (.int .i64 a0_3) ∧ w'.cell? ⟨gb303, 4, none⟩ = some (.int .i64 a0_4) ∧ w'.cell? ⟨go44, ((x9_2).toNat * 2), none⟩ = some (.int .i64 ((rd_T46 x7_2 x9_2).f0)) ∧ w'.cell? ⟨go44, ((x9_2).toNat * 2) + 1, none⟩ = some (.int .i64 ((rd_T46 x7_2 x9_2).f1)) ∧ w'.cell? ⟨go44, (((ji40)).toNat * 2), none⟩ = some (.int .i64 ((rd_T46 x7_2 (ji40)).f0)) ∧ w'.cell? ⟨go44, (((ji40)).toNat * 2) + 1, none⟩ = some (.int .i64 ((rd_T46 x7_2 (ji40)).f1))) (ds := [20]) #[F,F,F,F,F,F,F,F,F,F,F,F,F,F,F,F,F,F,F,F,F] (by kernel_rfl) rfl rfl ⟨zc0 BK303, zc1 BK303, zc2 BK303, zc3 BK303, zc4 BK303, hx317_0, hx317_1, hx318_0, hx318_1⟩ (fun hHeld => ?_); refine with_tabW impl_FlyPath_spans.tab13 impl_FlyPath_spans.bits13 (fun HT_ HW_ => ?_)
       generalize wr.drew = w48 at HO_7 BK303 HB GG44 HQ49 hf44_0 hf44_1 hx317_0 hx317_1 hx318_0 hx318_1 hx44_0 hx44_1 hHeld ⊢
       refine zq HT_ 0 ?_
       refine zq HT_ 1 ?_
       refine zq HT_ 2 ?_
       refine zq HT_ 3 ?_
       refine zq HT_ 4 ?_
       refine zq HT_ 5 ?_
       refine zq HT_ 7 ?_
       refine zq HT_ 8 ?_
       refine zq HT_ 9 ?_
       refine zq HT_ 10 ?_
       refine zq HT_ 11 ?_
       refine zq HT_ 13 ?_
       refine zq HT_ 14 ?_
       refine zk9 HT_ HW_ hHeld 6 ?_
       refine zk9 HT_ HW_ hHeld 12 ?_
       refine zk9 HT_ HW_ hHeld 15 ?_
       refine zq HT_ 16 ?_
       refine zq HT_ 17 ?_
       refine zq HT_ 18 ?_
       refine zq HT_ 19 ?_
       refine zO HT_ 20 (fun K hK => ?_)
       refine skip_ (w1 := ?_) (by rfl) rfl ?_ ?_
       rotate_left
       ·go_simp
        rfl
       refine hK.out _ _ ?_
       clear hK K
       refine done_ (done_of HT_.out (by kernel_rfl)) ?_
       obtain ⟨hcz50_0, hcz50_1, hcz50_2, hcz50_3, hcz50_4⟩ := zd5 BK303
       obtain ⟨hfz50_0, hfz50_1, hfz50_2, hfz50_3, hfz50_4⟩ := zn5 BK303
       have p320 : 0 ≤ ((ji40) : Int) := za
       have q320 : (ji40) < (l0_2.length : Int) := za
       obtain ⟨ad320, e320, hx320_0, hx320_1, hx320_2, hx320_3, hx320_4, hx320_5, hx320_6⟩ := at_T88 HR0_2.out (ji40) p320 q320
       (try rw [← Nbq46.out] at hx320_6)
       cases e320
       have hn320_0 : ad320.block ≠ go44 := Nat.ne_of_lt (Nat.lt_of_lt_of_le (by have := World.block_lt_of_cell? _ _ hx320_0; first | rwa [add_block] at this | exact this) GB44.out)
       replace hx320_0 := zx HB hx320_0
       replace hx320_1 := zx HB hx320_1
       replace hx320_2 := zx HB hx320_2
       replace hx320_3 := zx HB hx320_3
       replace hx320_4 := zx HB hx320_4
       replace hx320_5 := zx HB hx320_5
       replace hx320_6 := zx HB hx320_6
       replace hx320_0 := (cell_far (p := ⟨go44, (x9_2 : Int).toNat * 2, none⟩) (by first | (rw [add_block]; exact hn320_0) | (show (Addr.add _ _).block ≠ _; rw [add_block]; exact hn320_0) | exact hn320_0) (.int .i64 ji43)).trans hx320_0
       replace hx320_1 := (cell_far (p := ⟨go44, (x9_2 : Int).toNat * 2, none⟩) (by first | (rw [add_block]; exact hn320_0) | (show (Addr.add _ _).block ≠ _; rw [add_block]; exact hn320_0) | exact hn320_0) (.int .i64 ji43)).trans hx320_1
       replace hx320_2 := (cell_far (p := ⟨go44, (x9_2 : Int).toNat * 2, none⟩) (by first | (rw [add_block]; exact hn320_0) | (show (Addr.add _ _).block ≠ _; rw [add_block]; exact hn320_0) | exact hn320_0) (.int .i64 ji43)).trans hx320_2
       replace hx320_3 := (cell_far (p := ⟨go44, (x9_2 : Int).toNat * 2, none⟩) (by first | (rw [add_block]; exact hn320_0) | (show (Addr.add _ _).block ≠ _; rw [add_block]; exact hn320_0) | exact hn320_0) (.int .i64 ji43)).trans hx320_3
       replace hx320_4 := (cell_far (p := ⟨go44, (x9_2 : Int).toNat * 2, none⟩) (by first | (rw [add_block]; exact hn320_0) | (show (Addr.add _ _).block ≠ _; rw [add_block]; exact hn320_0) | exact hn320_0) (.int .i64 ji43)).trans hx320_4
       replace hx320_5 := (cell_far (p := ⟨go44, (x9_2 : Int).toNat * 2, none⟩) (by first | (rw [add_block]; exact hn320_0) | (show (Addr.add _ _).block ≠ _; rw [add_block]; exact hn320_0) | exact hn320_0) (.int .i64 ji43)).trans hx320_5
       replace hx320_6 := (cell_far (p := ⟨go44, (x9_2 : Int).toNat * 2, none⟩) (by first | (rw [add_block]; exact hn320_0) | (show (Addr.add _ _).block ≠ _; rw [add_block]; exact hn320_0) | exact hn320_0) (.int .i64 ji43)).trans hx320_6
       clear hn320_0
       replace p320 := eq_true p320
       replace q320 := eq_true q320
       have hne_ : gb303 ≠ go44 := (by have h_ := Kd.R_ne HO_7.out BK303.out (by decide); intro e_; exact h_ (by rw [e_]; rfl))
       have hy0_ := (cell_far (p := ⟨go44, (x9_2 : Int).toNat * 2, none⟩) (a := ⟨gb303, 0, none⟩) hne_ (.int .i64 ji43)).trans (zc0 BK303)
       have hy1_ := (cell_far (p := ⟨go44, (x9_2 : Int).toNat * 2, none⟩) (a := ⟨gb303, 1, none⟩) hne_ (.int .i64 ji43)).trans (zc1 BK303)
       have hy2_ := (cell_far (p := ⟨go44, (x9_2 : Int).toNat * 2, none⟩) (a := ⟨gb303, 2, none⟩) hne_ (.int .i64 ji43)).trans (zc2 BK303)
       have hy3_ := (cell_far (p := ⟨go44, (x9_2 : Int).toNat * 2, none⟩) (a := ⟨gb303, 3, none⟩) hne_ (.int .i64 ji43)).trans (zc3 BK303)
       have hy4_ := (cell_far (p := ⟨go44, (x9_2 : Int).toNat * 2, none⟩) (a := ⟨gb303, 4, none⟩) hne_ (.int .i64 ji43)).trans (zc4 BK303)
       try go_wp2
       (try simp only [← hl7_2])
       go_roundg k2
       case measure => have := HK1.out; have := HK2.out; omega
       case rel => exact ⟨(y319), (wrap64 (x9_2 + 1)), zi, H', ⟨by have := HK1.out; have := HK2.out; omega⟩, ⟨by (try simp only [hl7_1]); (try simp only [hl7_2]); (with_reducible repeat (first | apply Kd.R_alloc | apply Kd.R_drewN | apply Kd.R_drew)); exact HQ49.out⟩, ⟨by (try simp only [hl7_1]); (try simp only [hl7_2]); (with_reducible repeat (first | refine blk_drewN ?_ _ | refine blk_drew ?_ | refine blk_alloc ?_ _)); refine blk_far ?_ (by have h_ := Kd.R_ne HO_7.out BK303.out (by decide); intro e_; exact h_ (by rw [e_]; rfl)) _; (with_reducible repeat (first | refine blk_drewN ?_ _ | refine blk_drew ?_ | refine blk_alloc ?_ _)); exact BK303.out⟩, ⟨by repeat (first | (with_reducible first | exact HB.out | apply below_alloc | apply pw_below_drewN | apply below_drew1 | refine below_set ?_ GB44.out | refine below_set ?_ GE303.out) | exact HB.out)⟩⟩
      replace c47 := Bool.eq_false_iff.mpr c47
      subst c47
      have H1 : (impl_FlyPath_spans.l1 k2 (l0_2.length : Int) (y319.set (x9_2 : Int).toNat (⟨(rd_T46 y319 x9_2).f0, mn ((rd_T46 y319 x9_2).f1) (wrap64 (((rd_T46 y319 (ji40)).f1) + a0_1))⟩ : S46)) (wrap64 (x9_2 + 1)) a0_0 a0_1 l0_2 a0_3 a0_4) = some (r1, r2) := by rw [if_neg (show ¬ (false = true) by decide)] at H; exact H
      clear H
      have H := H1
      clear H1
      obtain ⟨ji51, hji51⟩ : ∃ j_ : Int, (mn ((rd_T46 y319 x9_2).f1) (wrap64 (((rd_T46 y319 (ji40)).f1) + a0_1))) = j_ := ⟨_, rfl⟩
      first | rw [hji51] at H | simp only [hji51] at H
      have hji51_ : (if (wrap64 (((rd_T46 y319 (ji40)).f1) + a0_1)) < ((rd_T46 y319 x9_2).f1) then (wrap64 (((rd_T46 y319 (ji40)).f1) + a0_1)) else ((rd_T46 y319 x9_2).f1)) = ji51 := hji51
      obtain ⟨y323, hy323⟩ : ∃ y_ : List (S46), y_ = (y319.set (x9_2 : Int).toNat (⟨(rd_T46 y319 x9_2).f0, ji51⟩ : S46)) := ⟨_, rfl⟩
      replace H : (impl_FlyPath_spans.l1 k2 (l0_2.length : Int) y323 (wrap64 (x9_2 + 1)) a0_0 a0_1 l0_2 a0_3 a0_4) = some (r1, r2) := by first | (rw [hy323]; with_reducible exact H) | (have H2_ := (Option.bind_some _ _).symm.trans H; rw [hy323]; with_reducible exact H2_) | (have H2_ := (Option.bind_some _ _).symm.trans H; with_reducible exact H2_) | with_reducible exact H | (rw [hy323]; exact H) | exact H
      have Ny323 := zA hy323
      clear hy323
      have H' := zA H
      clear H
      try go_wp2
      replace HO_7 := zA (Kd.R_drew HO_7.out)
      replace BK303 := zA (blk_drew BK303.out)
      replace HB := zA (below_drew1 HB.out)
      have p317 : 0 ≤ (x9_2 : Int) := za
      have q317 : x9_2 < (x7_2.length : Int) := za
      obtain ⟨ad317, e317, hx317_0, hx317_1⟩ := at_T46 (Kd.R_reads' HO_7.out).2.2 x9_2 p317 q317
      cases e317
      replace p317 := eq_true p317
      replace q317 := eq_true q317
      have p318 : 0 ≤ ((ji40) : Int) := za
      have q318 : (ji40) < (x7_2.length : Int) := za
      obtain ⟨ad318, e318, hx318_0, hx318_1⟩ := at_T46 (Kd.R_reads' HO_7.out).2.2 (ji40) p318 q318
      obtain rfl : ad317 = ad318 := (by injection e318)
      replace p318 := eq_true p318
      replace q318 := eq_true q318
      have p44 : 0 ≤ (x9_2 : Int) := za
      have q44 : (x9_2 : Int) < ((x7_2.length : Int) : Int) := za
      obtain ⟨go44, co44, eo44, gb44, gl44, cl44, HG44⟩ := Kd.R_form HO_7.out (by omega)
      (first | cases eo44 | (injection eo44 with ea_ en_ ec_; (first | subst ea_ | (injection ea_ with ea_; subst ea_)); subst ec_; clear en_))
      have GB44 := zA gb44
      have GG44 := zA HG44
      clear gb44 gl44 HG44
      (first | simp only [add_plain] at hx317_0 | skip)
      (first | simp only [add_plain] at hx317_1 | skip)
      (first | simp only [add_plain] at hx318_0 | skip)
      (first | simp only [add_plain] at hx318_1 | skip)
      obtain ⟨ce44, hcl44, hM44, hcc44, hfr44⟩ := Kd.R_elem HO_7.out z46 (x9_2 : Int) p44 q44
      obtain rfl := k46_openM hM44
      have hx44_0 : World.cell? _ ⟨go44, (x9_2 : Int).toNat * 2, none⟩ = some (.int .i64 ((rd_T46 x7_2 x9_2).f0)) := hcc44 0 _ rfl
      have hx44_1 : World.cell? _ ⟨go44, (x9_2 : Int).toNat * 2 + 1, none⟩ = some (.int .i64 ((rd_T46 x7_2 x9_2).f1)) := hcc44 1 _ rfl
      have hf44_0 : World.frozen? _ ⟨go44, (x9_2 : Int).toNat * 2, none⟩ = false := hfr44 0
      have hf44_1 : World.frozen? _ ⟨go44, (x9_2 : Int).toNat * 2 + 1, none⟩ = false := hfr44 1
      clear hcl44 hcc44 hfr44 hM44
      replace p44 := eq_true p44
      replace q44 := eq_true q44
      obtain ⟨ce54, hcl54, hM54, hcc54, hfr54⟩ := Kd.R_elem HO_7.out z46 (x9_2 : Int) (za) (by have h_ : (x9_2 : Int) < ((x7_2.length : Int) : Int) := za; first | exact h_ | (have e_ := (Kd.R_reads' HO_7.out).1; omega) | simpa using h_)
      obtain rfl := k46_openM hM54
      have HP54 := (Kd.R_seg HO_7.out (x9_2 : Int) (za) (by have h_ : (x9_2 : Int) < ((x7_2.length : Int) : Int) := za; first | exact h_ | (have e_ := (Kd.R_reads' HO_7.out).1; omega) | simpa using h_) (seg := [.int .i64 ji43]) (j := 0) hcl54 hcc54 (show 1 ≤ 2 from by decide) (x' := (⟨ji43, (rd_T46 x7_2 x9_2).f1⟩ : S46)) (k46_mkM _ _ _ (⟨ji43, (rd_T46 x7_2 x9_2).f1⟩ : S46) ) (fun _ hk => hk)).1
      rw [← Ny319.out] at HP54
      have HQ54 := zA HP54
      clear hcl54 hcc54 hfr54 hM54 HP54
      refine start_ (n := 21) (S := fun w' => w'.cell? ⟨gb303, 0, none⟩ = some (.int .i64 a0_0) ∧ w'.cell? ⟨gb303, 1, none⟩ = some (.int .i64 a0_1) ∧ w'.cell? ⟨gb303, 2, none⟩ = some (.slice A0_2 l0_2.length c0_2) ∧ w'.cell? ⟨gb303, 3, none⟩ = some (.int .i64 a0_3) ∧ w'.cell? ⟨gb303, 4, none⟩ = some (.int .i64 a0_4) ∧ w'.cell? ⟨go44, ((x9_2).toNat * 2), none⟩ = some (.int .i64 ((rd_T46 x7_2 x9_2).f0)) ∧ w'.cell? ⟨go44, ((x9_2).toNat * 2) + 1, none⟩ = some (.int .i64 ((rd_T46 x7_2 x9_2).f1)) ∧ w'.cell? ⟨go44, (((ji40)).toNat * 2), none⟩ = some (.int .i64 ((rd_T46 x7_2 (ji40)).f0)) ∧ w'.cell? ⟨go44, (((ji40)).toNat * 2) + 1, none⟩ = some (.int .i64 ((rd_T46 x7_2 (ji40)).f1))) (ds := [20]) #[F,F,F,F,F,F,F,F,F,F,F,F,F,F,F,F,F,F,F,F,F] (by kernel_rfl) rfl rfl ⟨zc0 BK303, zc1 BK303, zc2 BK303, zc3 BK303, zc4 BK303, hx317_0, hx317_1, hx318_0, hx318_1⟩ (fun hHeld => ?_); refine with_tabW impl_FlyPath_spans.tab13 impl_FlyPath_spans.bits13 (fun HT_ HW_ => ?_)
      generalize wr.drew = w53 at HO_7 BK303 HB GG44 HQ54 hf44_0 hf44_1 hx317_0 hx317_1 hx318_0 hx318_1 hx44_0 hx44_1 hHeld ⊢
      refine zq HT_ 0 ?_
      refine zq HT_ 1 ?_
      refine zq HT_ 2 ?_
      refine zq HT_ 3 ?_
      refine zq HT_ 4 ?_
      refine zq HT_ 5 ?_
      refine zq HT_ 7 ?_
      refine zq HT_ 8 ?_
      refine zq HT_ 9 ?_
      refine zq HT_ 10 ?_
      refine zq HT_ 11 ?_
      refine zq HT_ 13 ?_
      refine zq HT_ 14 ?_
      refine zk9 HT_ HW_ hHeld 6 ?_
      refine zk9 HT_ HW_ hHeld 12 ?_
      refine zk9 HT_ HW_ hHeld 15 ?_
      refine zq HT_ 16 ?_
      refine zq HT_ 17 ?_
      refine zq HT_ 18 ?_
      refine zq HT_ 19 ?_
      refine zO HT_ 20 (fun K hK => ?_)
      refine skip_ (w1 := ?_) (by rfl) rfl ?_ ?_
      rotate_left
      ·go_simp
       rfl
      refine hK.out _ _ ?_
      clear hK K
      refine done_ (done_of HT_.out (by kernel_rfl)) ?_
      obtain ⟨hcz55_0, hcz55_1, hcz55_2, hcz55_3, hcz55_4⟩ := zd5 BK303
      obtain ⟨hfz55_0, hfz55_1, hfz55_2, hfz55_3, hfz55_4⟩ := zn5 BK303
      have p320 : 0 ≤ ((ji40) : Int) := za
      have q320 : (ji40) < (l0_2.length : Int) := za
      obtain ⟨ad320, e320, hx320_0, hx320_1, hx320_2, hx320_3, hx320_4, hx320_5, hx320_6⟩ := at_T88 HR0_2.out (ji40) p320 q320
      (try rw [← Nbq46.out] at hx320_6)
      cases e320
      have hn320_0 : ad320.block ≠ go44 := Nat.ne_of_lt (Nat.lt_of_lt_of_le (by have := World.block_lt_of_cell? _ _ hx320_0; first | rwa [add_block] at this | exact this) GB44.out)
      replace hx320_0 := zx HB hx320_0
      replace hx320_1 := zx HB hx320_1
      replace hx320_2 := zx HB hx320_2
      replace hx320_3 := zx HB hx320_3
      replace hx320_4 := zx HB hx320_4
      replace hx320_5 := zx HB hx320_5
      replace hx320_6 := zx HB hx320_6
      replace hx320_0 := (cell_far (p := ⟨go44, (x9_2 : Int).toNat * 2, none⟩) (by first | (rw [add_block]; exact hn320_0) | (show (Addr.add _ _).block ≠ _; rw [add_block]; exact hn320_0) | exact hn320_0) (.int .i64 ji43)).trans hx320_0
      replace hx320_1 := (cell_far (p := ⟨go44, (x9_2 : Int).toNat * 2, none⟩) (by first | (rw [add_block]; exact hn320_0) | (show (Addr.add _ _).block ≠ _; rw [add_block]; exact hn320_0) | exact hn320_0) (.int .i64 ji43)).trans hx320_1
      replace hx320_2 := (cell_far (p := ⟨go44, (x9_2 : Int).toNat * 2, none⟩) (by first | (rw [add_block]; exact hn320_0) | (show (Addr.add _ _).block ≠ _; rw [add_block]; exact hn320_0) | exact hn320_0) (.int .i64 ji43)).trans hx320_2
      replace hx320_3 := (cell_far (p := ⟨go44, (x9_2 : Int).toNat * 2, none⟩) (by first | (rw [add_block]; exact hn320_0) | (show (Addr.add _ _).block ≠ _; rw [add_block]; exact hn320_0) | exact hn320_0) (.int .i64 ji43)).trans hx320_3
      replace hx320_4 := (cell_far (p := ⟨go44, (x9_2 : Int).toNat * 2, none⟩) (by first | (rw [add_block]; exact hn320_0) | (show (Addr.add _ _).block ≠ _; rw [add_block]; exact hn320_0) | exact hn320_0) (.int .i64 ji43)).trans hx320_4
      replace hx320_5 := (cell_far (p := ⟨go44, (x9_2 : Int).toNat * 2, none⟩) (by first | (rw [add_block]; exact hn320_0) | (show (Addr.add _ _).block ≠ _; rw [add_block]; exact hn320_0) | exact hn320_0) (.int .i64 ji43)).trans hx320_5
      replace hx320_6 := (cell_far (p := ⟨go44, (x9_2 : Int).toNat * 2, none⟩) (by first | (rw [add_block]; exact hn320_0) | (show (Addr.add _ _).block ≠ _; rw [add_block]; exact hn320_0) | exact hn320_0) (.int .i64 ji43)).trans hx320_6
      clear hn320_0
      replace p320 := eq_true p320
      replace q320 := eq_true q320
      have hne_ : gb303 ≠ go44 := (by have h_ := Kd.R_ne HO_7.out BK303.out (by decide); intro e_; exact h_ (by rw [e_]; rfl))
      have hy0_ := (cell_far (p := ⟨go44, (x9_2 : Int).toNat * 2, none⟩) (a := ⟨gb303, 0, none⟩) hne_ (.int .i64 ji43)).trans (zc0 BK303)
      have hy1_ := (cell_far (p := ⟨go44, (x9_2 : Int).toNat * 2, none⟩) (a := ⟨gb303, 1, none⟩) hne_ (.int .i64 ji43)).trans (zc1 BK303)
      have hy2_ := (cell_far (p := ⟨go44, (x9_2 : Int).toNat * 2, none⟩) (a := ⟨gb303, 2, none⟩) hne_ (.int .i64 ji43)).trans (zc2 BK303)
      have hy3_ := (cell_far (p := ⟨go44, (x9_2 : Int).toNat * 2, none⟩) (a := ⟨gb303, 3, none⟩) hne_ (.int .i64 ji43)).trans (zc3 BK303)
      have hy4_ := (cell_far (p := ⟨go44, (x9_2 : Int).toNat * 2, none⟩) (a := ⟨gb303, 4, none⟩) hne_ (.int .i64 ji43)).trans (zc4 BK303)
      try go_wp2
      obtain ⟨w56, e_⟩ : ∃ x, x = (w53.setCell ⟨go44, (x9_2 : Int).toNat * 2, none⟩ (.int .i64 ji43)) := ⟨_, rfl⟩
      have n0_ : Aside0 (Kd.R k46 46 w56 w.heap.size (fun _ => True) (.slice (some ⟨go44, 0, none⟩) x7_2.length co10) y319) := by rw [e_]; exact ⟨zr HQ54⟩
      have n1_ : Aside0 (w56.heap[gb303]? = some (.cells #[.int .i64 a0_0, .int .i64 a0_1, .slice (some ad320) l0_2.length c0_2, .int .i64 a0_3, .int .i64 a0_4] 34 (0, 0))) := by rw [e_]; exact ⟨by (with_reducible repeat (first | refine blk_drewN ?_ _ | refine blk_drew ?_ | refine blk_alloc ?_ _)); refine blk_far ?_ (by have h_ := Kd.R_ne HO_7.out BK303.out (by decide); intro e_; exact h_ (by rw [e_]; rfl)) _; (with_reducible repeat (first | refine blk_drewN ?_ _ | refine blk_drew ?_ | refine blk_alloc ?_ _)); exact BK303.out⟩
      have n2_ : Aside0 (Below w.heap.size w w56) := by rw [e_]; exact ⟨by repeat (first | (with_reducible first | exact HB.out | apply below_alloc | apply pw_below_drewN | apply below_drew1 | refine below_set ?_ GB44.out | refine below_set ?_ GE303.out) | exact HB.out)⟩
      (try clear HO_7)
      (try clear BK303)
      (try clear HB)
      rw [← e_]; clear e_
      have HO_7 := n0_
      have BK303 := n1_
      have HB := n2_
      clear n0_ n1_ n2_
      replace HO_7 := zA (Kd.R_drew HO_7.out)
      replace BK303 := zA (blk_drew BK303.out)
      replace HB := zA (below_drew1 HB.out)
      have p321 : 0 ≤ (x9_2 : Int) := za
      have q321 : x9_2 < (y319.length : Int) := (by have h_ : (x9_2 : Int) < ((x7_2.length : Int) : Int) := za; first | (have e_ := (Kd.R_reads' HO_7.out).1; omega) | simpa only [Ny319.out, List.length_set] using h_)
      have ql321 : ((x9_2 : Int) < ((x7_2.length : Int) : Int)) = True := eq_true (za)
      obtain ⟨ad321, e321, hx321_0, hx321_1⟩ := at_T46 (Kd.R_reads' HO_7.out).2.2 x9_2 p321 q321
      obtain rfl : (⟨go44, 0, none⟩ : Addr) = ad321 := (by injection e321)
      (first | simp only [add_plain] at hx321_0 | simp only [add_at] at hx321_0 | simp only [Addr.add, Nat.zero_add] at hx321_0 | skip)
      (first | simp only [add_plain] at hx321_1 | simp only [add_at] at hx321_1 | simp only [Addr.add, Nat.zero_add] at hx321_1 | skip)
      replace p321 := eq_true p321
      replace q321 := eq_true q321
      have p322 : 0 ≤ ((ji40) : Int) := za
      have q322 : (ji40) < (y319.length : Int) := (by have h_ : ((ji40) : Int) < ((x7_2.length : Int) : Int) := za; first | (have e_ := (Kd.R_reads' HO_7.out).1; omega) | simpa only [Ny319.out, List.length_set] using h_)
      have ql322 : (((ji40) : Int) < ((x7_2.length : Int) : Int)) = True := eq_true (za)
      obtain ⟨ad322, e322, hx322_0, hx322_1⟩ := at_T46 (Kd.R_reads' HO_7.out).2.2 (ji40) p322 q322
      obtain rfl : (⟨go44, 0, none⟩ : Addr) = ad322 := (by injection e322)
      (first | simp only [add_plain] at hx322_0 | simp only [add_at] at hx322_0 | simp only [Addr.add, Nat.zero_add] at hx322_0 | skip)
      (first | simp only [add_plain] at hx322_1 | simp only [add_at] at hx322_1 | simp only [Addr.add, Nat.zero_add] at hx322_1 | skip)
      replace p322 := eq_true p322
      replace q322 := eq_true q322
      have p52 : 0 ≤ (x9_2 : Int) := za
      have q52 : (x9_2 : Int) < ((x7_2.length : Int) : Int) := za
      obtain ⟨ce52, hcl52, hM52, hcc52, hfr52⟩ := Kd.R_elem HO_7.out z46 (x9_2 : Int) p52 q52
      obtain rfl := k46_openM hM52
      have hx52_0 : World.cell? _ ⟨go44, (x9_2 : Int).toNat * 2, none⟩ = some (.int .i64 ((rd_T46 y319 x9_2).f0)) := hcc52 0 _ rfl
      have hx52_1 : World.cell? _ ⟨go44, (x9_2 : Int).toNat * 2 + 1, none⟩ = some (.int .i64 ((rd_T46 y319 x9_2).f1)) := hcc52 1 _ rfl
      have hf52_0 : World.frozen? _ ⟨go44, (x9_2 : Int).toNat * 2, none⟩ = false := hfr52 0
      have hf52_1 : World.frozen? _ ⟨go44, (x9_2 : Int).toNat * 2 + 1, none⟩ = false := hfr52 1
      clear hcl52 hcc52 hfr52 hM52
      replace p52 := eq_true p52
      replace q52 := eq_true q52
      obtain ⟨ce58, hcl58, hM58, hcc58, hfr58⟩ := Kd.R_elem HO_7.out z46 (x9_2 : Int) (za) (by have h_ : (x9_2 : Int) < ((x7_2.length : Int) : Int) := za; first | exact h_ | (have e_ := (Kd.R_reads' HO_7.out).1; omega) | simpa using h_)
      obtain rfl := k46_openM hM58
      have HP58 := (Kd.R_seg HO_7.out (x9_2 : Int) (za) (by have h_ : (x9_2 : Int) < ((x7_2.length : Int) : Int) := za; first | exact h_ | (have e_ := (Kd.R_reads' HO_7.out).1; omega) | simpa using h_) (seg := [.int .i64 ji51]) (j := 1) hcl58 hcc58 (show 2 ≤ 2 from by decide) (x' := (⟨(rd_T46 y319 x9_2).f0, ji51⟩ : S46)) (k46_mkM _ _ _ (⟨(rd_T46 y319 x9_2).f0, ji51⟩ : S46) ) (fun _ hk => hk)).1
      rw [← Ny323.out] at HP58
      have HQ58 := zA HP58
      clear hcl58 hcc58 hfr58 hM58 HP58
      refine start_ (n := 21) (S := fun w' => w'.cell? ⟨gb303, 0, none⟩ = some (.int .i64 a0_0) ∧ w'.cell? ⟨gb303, 1, none⟩ = some (.int .i64 a0_1) ∧ w'.cell? ⟨gb303, 2, none⟩ = some (.slice (some ad320) l0_2.length c0_2) ∧ w'.cell? ⟨gb303, 3, none⟩ = some (.int .i64 a0_3) ∧ w'.cell? ⟨gb303, 4, none⟩ = some (.int .i64 a0_4) ∧ w'.cell? ⟨go44, (x9_2).toNat * 2, none⟩ = some (.int .i64 ((rd_T46 y319 x9_2).f0)) ∧ w'.cell? ⟨go44, (x9_2).toNat * 2 + 1, none⟩ = some (.int .i64 ((rd_T46 y319 x9_2).f1)) ∧ w'.cell? ⟨go44, ((ji40)).toNat * 2, none⟩ = some (.int .i64 ((rd_T46 y319 (ji40)).f0)) ∧ w'.cell? ⟨go44, ((ji40)).toNat * 2 + 1, none⟩ = some (.int .i64 ((rd_T46 y319 (ji40)).f1))) (ds := [20]) #[F,F,F,F,F,F,F,F,F,F,F,F,F,F,F,F,F,F,F,F,F] (by kernel_rfl) rfl rfl ⟨zc0 BK303, zc1 BK303, zc2 BK303, zc3 BK303, zc4 BK303, hx321_0, hx321_1, hx322_0, hx322_1⟩ (fun hHeld => ?_); refine with_tabW impl_FlyPath_spans.tab15 impl_FlyPath_spans.bits15 (fun HT_ HW_ => ?_)
      generalize w56.drew = w57 at HO_7 BK303 HB HQ54 HQ58 hf52_0 hf52_1 hx321_0 hx321_1 hx322_0 hx322_1 hx52_0 hx52_1 hHeld ⊢
      refine zq HT_ 0 ?_
      refine zq HT_ 1 ?_
      refine zq HT_ 2 ?_
      refine zq HT_ 3 ?_
      refine zq HT_ 4 ?_
      refine zq HT_ 5 ?_
      refine zq HT_ 7 ?_
      refine zq HT_ 8 ?_
      refine zq HT_ 9 ?_
      refine zq HT_ 10 ?_
      refine zq HT_ 11 ?_
      refine zq HT_ 13 ?_
      refine zq HT_ 14 ?_
      refine zk9 HT_ HW_ hHeld 6 ?_
      refine zk9 HT_ HW_ hHeld 12 ?_
      refine zk9 HT_ HW_ hHeld 15 ?_
      refine zq HT_ 16 ?_
      refine zq HT_ 17 ?_
      refine zq HT_ 18 ?_
      refine zq HT_ 19 ?_
      refine zO HT_ 20 (fun K hK => ?_)
      refine skip_ (w1 := ?_) (by rfl) rfl ?_ ?_
      rotate_left
      ·go_simp
       rfl
      refine hK.out _ _ ?_
      clear hK K
      refine done_ (done_of HT_.out (by kernel_rfl)) ?_
      try go_wp2
      (try simp only [← hl7_2])
      go_roundg k2
      case measure => have := HK1.out; have := HK2.out; omega
      case rel => exact ⟨(y323), (wrap64 (x9_2 + 1)), zi, H', ⟨by have := HK1.out; have := HK2.out; omega⟩, ⟨by (try simp only [hl7_1]); (try simp only [hl7_2]); (with_reducible repeat (first | apply Kd.R_alloc | apply Kd.R_drewN | apply Kd.R_drew)); exact HQ58.out⟩, ⟨by (try simp only [hl7_1]); (try simp only [hl7_2]); (with_reducible repeat (first | refine blk_drewN ?_ _ | refine blk_drew ?_ | refine blk_alloc ?_ _)); refine blk_far ?_ (by have h_ := Kd.R_ne HO_7.out BK303.out (by decide); intro e_; exact h_ (by rw [e_]; rfl)) _; (with_reducible repeat (first | refine blk_drewN ?_ _ | refine blk_drew ?_ | refine blk_alloc ?_ _)); exact BK303.out⟩, ⟨by repeat (first | (with_reducible first | exact HB.out | apply below_alloc | apply pw_below_drewN | apply below_drew1 | refine below_set ?_ GB44.out | refine below_set ?_ GE303.out) | exact HB.out)⟩⟩
     rw [if_neg c37] at H
     have c37b0 : decide (x9_2 ≤ (l0_2.length : Int)) = false := decide_eq_false c37
     clear c37
     have H' := zA H
     clear H
     go_wp2
     go_loopg [10] k2 (fun kq v10 w' => ∃ (x7_3 : List (S46)) (x10_3 : Int), v10 = .int .i64 x10_3 ∧ Aside0 (impl_FlyPath_spans.l2 kq x7_3 x10_3 a0_0 a0_1 l0_2 a0_3 a0_4 = some (r1, r2)) ∧ Aside0 (kq ≤ k2) ∧ Aside0 (Kd.R k46 46 w' w.heap.size (fun _ => True) (.slice Ao10 x7_2.length co10) x7_3) ∧ Aside0 (w'.heap[gb303]? = some (.cells #[.int .i64 a0_0, .int .i64 a0_1, (.slice A0_2 l0_2.length c0_2), .int .i64 a0_3, .int .i64 a0_4] 34 (0, 0))) ∧ Aside0 (Below w.heap.size w w'))
     case atStart => exact ⟨(x7_2), (wrap64 ((l0_2.length : Int) - 1)), zi, H', ⟨Nat.le_refl _⟩, ⟨by (try simp only [hl7_1]); (try simp only [hl7_2]); (with_reducible repeat (first | apply Kd.R_alloc | apply Kd.R_drewN | apply Kd.R_drew)); exact HO_7.out⟩, ⟨by (try simp only [hl7_1]); (try simp only [hl7_2]); (with_reducible repeat (first | refine blk_drewN ?_ _ | refine blk_drew ?_ | refine blk_alloc ?_ _)); exact BK303.out⟩, ⟨zs1 HB GE303⟩⟩
     case round =>
      clear H'
      try clear p2
      try clear c3
      try clear p3
      try clear q3
      try clear hx3
      try clear c4
      try clear p4
      try clear q4
      try clear hx4
      try clear hf4
      try clear c5
      try clear p5
      try clear q5
      try clear hx5
      try clear hf5
      try clear p6
      try clear p31
      try clear q31
      try clear hx31
      try clear p32
      try clear q32
      try clear hx32
      try clear c37
      try clear c37b0
      try clear c38
      try clear c39
      try clear c41
      try clear c42
      try clear c44
      try clear p44
      try clear q44
      try clear hx44
      try clear hf44
      try clear c45
      try clear q46
      try clear c47
      try clear c52
      try clear p52
      try clear q52
      try clear hx52
      try clear hf52
      try clear c54
      try clear c58
      try clear hcz50_0 hcz50_1 hcz50_2 hcz50_3 hcz50_4
      try clear hcz55_0 hcz55_1 hcz55_2 hcz55_3 hcz55_4
      try clear hfz50_0 hfz50_1 hfz50_2 hfz50_3 hfz50_4
      try clear hfz55_0 hfz55_1 hfz55_2 hfz55_3 hfz55_4
      try clear hx317_0
      try clear hx317_1
      try clear hx318_0
      try clear hx318_1
      try clear hx320_0
      try clear hx320_1
      try clear hx320_2
      try clear hx320_3
      try clear hx320_4
      try clear hx320_5
      try clear hx320_6
      try clear hx321_0
      try clear hx321_1
      try clear hx322_0
      try clear hx322_1
      try clear hx44_0
      try clear hx44_1
      try clear hx52_0
      try clear hx52_1
      try clear p317
      try clear p318
      try clear p320
      try clear p321
      try clear p322
      try clear p44
      try clear p52
      try clear q317
      try clear q318
      try clear q320
      try clear q321
      try clear q322
      try clear q44
      try clear q52
      obtain ⟨x7_3, x10_3, rfl, HA, HK3, HO_7, BK303, HB⟩ := hrel
      have hl7_3 := (Kd.R_reads' HO_7.out).1
      rw [hl7_3] at HO_7
      (try simp only [hl7_3])
      (try simp only [hl7_3] at BK303)
      cases gk with
      | zero => exact absurd HA.out (by simp [impl_FlyPath_spans.l2])
      | succ k3 =>
       have H := HA.out
       clear HA
       simp only [impl_FlyPath_spans.l2] at H
       by_cases c59 : x10_3 ≥ 0
       rotate_left
       ·rw [if_neg c59] at H
        have c59b0 : decide (0 ≤ x10_3) = false := decide_eq_false c59
        clear c59
        have H' := zA H
        clear H
        go_wp2
        go_loopg [179] k3 (fun kq v179 w' => ∃ (x179_4 : Int), v179 = .int .i64 x179_4 ∧ Aside0 (impl_FlyPath_spans.l3 kq x7_3 x7_3 (x7_3.length : Int) x179_4 = some (r1, r2)) ∧ Aside0 (kq ≤ k3) ∧ Aside0 (Kd.R k46 46 w' w.heap.size (fun _ => True) (.slice Ao10 x7_3.length co10) x7_3) ∧ Aside0 (Kd.R k46 46 w' w.heap.size (fun _ => True) (.slice Ao10 x7_3.length co10) x7_3) ∧ Aside0 (w'.heap[gb303]? = some (.cells #[.int .i64 a0_0, .int .i64 a0_1, (.slice A0_2 l0_2.length c0_2), .int .i64 a0_3, .int .i64 a0_4] 34 (0, 0))) ∧ Aside0 (Below w.heap.size w w'))
        case atStart => exact ⟨(0), zi, H', ⟨Nat.le_refl _⟩, ⟨by (try simp only [hl7_1]); (try simp only [hl7_2]); (try simp only [hl7_3]); (with_reducible repeat (first | apply Kd.R_alloc | apply Kd.R_drewN | apply Kd.R_drew)); exact HO_7.out⟩, ⟨by (try simp only [hl7_1]); (try simp only [hl7_2]); (try simp only [hl7_3]); (with_reducible repeat (first | apply Kd.R_alloc | apply Kd.R_drewN | apply Kd.R_drew)); exact HO_7.out⟩, ⟨by (try simp only [hl7_1]); (try simp only [hl7_2]); (try simp only [hl7_3]); (with_reducible repeat (first | refine blk_drewN ?_ _ | refine blk_drew ?_ | refine blk_alloc ?_ _)); exact BK303.out⟩, ⟨zs1 HB GE303⟩⟩
        case round =>
         clear H'
         try clear p2
         try clear p3
         try clear q3
         try clear hx3
         try clear c5
         try clear c6
         try clear p6
         try clear q6
         try clear hx6
         try clear hf6
         try clear c7
         try clear p7
         try clear q7
         try clear hx7
         try clear hf7
         try clear c8
         try clear p32
         try clear q32
         try clear hx32
         try clear c59
         try clear c59b0
         try clear c60
         try clear c61
         try clear c63
         try clear c64
         try clear p64
         try clear c66
         try clear p66
         try clear q66
         try clear hx66
         try clear hf66
         try clear c67
         try clear q68
         try clear c69
         try clear c74
         try clear p74
         try clear q74
         try clear hx74
         try clear hf74
         try clear c76
         try clear c80
         try clear hcz72_0 hcz72_1 hcz72_2 hcz72_3 hcz72_4
         try clear hcz77_0 hcz77_1 hcz77_2 hcz77_3 hcz77_4
         try clear hfz72_0 hfz72_1 hfz72_2 hfz72_3 hfz72_4
         try clear hfz77_0 hfz77_1 hfz77_2 hfz77_3 hfz77_4
         try clear hx324_0
         try clear hx324_1
         try clear hx325_0
         try clear hx325_1
         try clear hx327_0
         try clear hx327_1
         try clear hx327_2
         try clear hx327_3
         try clear hx327_4
         try clear hx327_5
         try clear hx327_6
         try clear hx328_0
         try clear hx328_1
         try clear hx329_0
         try clear hx329_1
         try clear hx66_0
         try clear hx66_1
         try clear hx74_0
         try clear hx74_1
         try clear p324
         try clear p325
         try clear p327
         try clear p328
         try clear p329
         try clear p66
         try clear p74
         try clear q324
         try clear q325
         try clear q327
         try clear q328
         try clear q329
         try clear q66
         try clear q74
         obtain ⟨x179_4, rfl, HA, HK4, HO_7, HO_177, BK303, HB⟩ := hrel
         cases gk with
         | zero => exact absurd HA.out (by simp [impl_FlyPath_spans.l3])
         | succ k4 =>
          have H := HA.out
          clear HA
          simp only [impl_FlyPath_spans.l3] at H
          by_cases c81 : x179_4 < (x7_3.length : Int)
          rotate_left
          ·rw [if_neg c81] at H
           have c81b0 : decide (x179_4 < (x7_3.length : Int)) = false := decide_eq_false c81
           clear c81
           simp only [Option.some.injEq, Prod.mk.injEq] at H
           obtain ⟨rfl, rfl⟩ := H
           go_wp2
           go_ret2
           exact ⟨_, by first | rfl | (simp [errW_none, errW_some] <;> rfl) | (simp only [← hji3]; first | rfl | (simp [errW_none, errW_some] <;> rfl)) | (simp [*, errW_none, errW_some] <;> rfl), zr HO_7, zs1 HB GE303⟩
          rw [if_pos c81] at H
          have c81b0 : decide (x179_4 < (x7_3.length : Int)) = true := decide_eq_true c81
          clear c81
          by_cases c82 : 0 ≤ x179_4
          rotate_left
          ·rw [if_neg c82] at H
           exact absurd H (by simp)
          rw [if_pos c82] at H
          have c82b0 : decide (0 ≤ x179_4) = true := decide_eq_true c82
          clear c82
          by_cases c83 : x179_4 < (x7_3.length : Int)
          rotate_left
          ·rw [if_neg c83] at H
           exact absurd H (by simp)
          rw [if_pos c83] at H
          have c83b0 : decide (x179_4 < (x7_3.length : Int)) = true := decide_eq_true c83
          clear c83
          by_cases c84 : ((rd_T46 x7_3 x179_4).f0) > ((rd_T46 x7_3 x179_4).f1)
          ·rw [if_pos c84] at H
           have c84b0 : decide (((rd_T46 x7_3 x179_4).f1) < ((rd_T46 x7_3 x179_4).f0)) = true := decide_eq_true c84
           clear c84
           simp only [Option.some.injEq, Prod.mk.injEq] at H
           obtain ⟨rfl, rfl⟩ := H
           have p331 : 0 ≤ (x179_4 : Int) := za
           have q331 : x179_4 < (x7_3.length : Int) := za
           obtain ⟨ad331, e331, hx331_0, hx331_1⟩ := at_T46 (Kd.R_reads' HO_177.out).2.2 x179_4 p331 q331
           cases e331
           replace p331 := eq_true p331
           replace q331 := eq_true q331
           go_wp2_with (first | ((with_reducible refine gate_dst (N := 12) rfl ?_); refine zbx 12 #[.int .i64 0, .int .i64 0] 46 ?_; intro gb332 hg w85 hbox hb; have BK332 := zA hbox; have GW332 := zgs hg (zs1 HB GE303); have GE332 := zgs hg (zs1 HB GE303); have NB303_332 := zne hg BK303; have NB332_303 := znf hg BK303; replace HO_7 := zA (Kd.R_below (Kd.R_elderB (zr HO_7) gb332 (Nat.le_of_eq hg.symm)) hb); replace HO_177 := zA (Kd.R_below (Kd.R_elderB (zr HO_177) gb332 (Nat.le_of_eq hg.symm)) hb); replace BK303 := zb BK303 hb; replace HB := zE (zs1 HB GE303) hb; clear hb hbox hg; have hnb86 := NB332_303.out; have hnc86 := NB303_332.out; obtain ⟨hcz87_0, hcz87_1⟩ := zd2 BK332; obtain ⟨hfz87_0, hfz87_1⟩ := zn2 BK332))
           go_ret2
           exact ⟨_, by first | rfl | (simp [errW_none, errW_some] <;> rfl) | (simp only [← hji3]; first | rfl | (simp [errW_none, errW_some] <;> rfl)) | (simp [*, errW_none, errW_some] <;> rfl), by first | exact Kd.R_nil _ _ _ _ _ | exact Kd.N_nil _ _ _ _ _ | exact Kd.V_nil _ _ _ _ _ | exact Kd.Q_nil _ _ _ _ _ | exact Kd.S_nil _ _ _ _ _, zs2 HB GE303 GE332⟩
          rw [if_neg c84] at H
          have c84b0 : decide (((rd_T46 x7_3 x179_4).f1) < ((rd_T46 x7_3 x179_4).f0)) = false := decide_eq_false c84
          clear c84
          have H' := zA H
          clear H
          have p331 : 0 ≤ (x179_4 : Int) := za
          have q331 : x179_4 < (x7_3.length : Int) := za
          obtain ⟨ad331, e331, hx331_0, hx331_1⟩ := at_T46 (Kd.R_reads' HO_177.out).2.2 x179_4 p331 q331
          cases e331
          replace p331 := eq_true p331
          replace q331 := eq_true q331
          go_wp2_with (first | ((with_reducible refine gate_dst (N := 12) rfl ?_); refine zbx 12 #[.int .i64 0, .int .i64 0] 46 ?_; intro gb332 hg w88 hbox hb; have BK332 := zA hbox; have GW332 := zgs hg (zs1 HB GE303); have GE332 := zgs hg (zs1 HB GE303); have NB303_332 := zne hg BK303; have NB332_303 := znf hg BK303; replace HO_7 := zA (Kd.R_below (Kd.R_elderB (zr HO_7) gb332 (Nat.le_of_eq hg.symm)) hb); replace HO_177 := zA (Kd.R_below (Kd.R_elderB (zr HO_177) gb332 (Nat.le_of_eq hg.symm)) hb); replace BK303 := zb BK303 hb; replace HB := zE (zs1 HB GE303) hb; clear hb hbox hg; have hnb89 := NB332_303.out; have hnc89 := NB303_332.out; obtain ⟨hcz90_0, hcz90_1⟩ := zd2 BK332; obtain ⟨hfz90_0, hfz90_1⟩ := zn2 BK332))
          go_roundg k4
          case measure => have := HK1.out; have := HK2.out; have := HK3.out; have := HK4.out; omega
          case rel => exact ⟨(wrap64 (x179_4 + 1)), zi, H', ⟨by have := HK1.out; have := HK2.out; have := HK3.out; have := HK4.out; omega⟩, ⟨by (try simp only [hl7_1]); (try simp only [hl7_2]); (try simp only [hl7_3]); (with_reducible repeat (first | apply Kd.R_alloc | apply Kd.R_drewN | apply Kd.R_drew)); exact Kd.R_mono (Kd.R_far (p := ⟨gb332, 1, none⟩) (Kd.R_far (p := ⟨gb332, 0, none⟩) (Kd.R_mono HO_7.out (fun k_ hk => (⟨hk, hk.2⟩ : _ ∧ k_ ≠ gb332))) (fun _ hk => hk.2) (.int .i64 ((rd_T46 x7_3 x179_4).f0))) (fun _ hk => hk.2) (.int .i64 ((rd_T46 x7_3 x179_4).f1))) (fun _ hk => trivial)⟩, ⟨by (try simp only [hl7_1]); (try simp only [hl7_2]); (try simp only [hl7_3]); (with_reducible repeat (first | apply Kd.R_alloc | apply Kd.R_drewN | apply Kd.R_drew)); exact Kd.R_mono (Kd.R_far (p := ⟨gb332, 1, none⟩) (Kd.R_far (p := ⟨gb332, 0, none⟩) (Kd.R_mono HO_177.out (fun k_ hk => (⟨hk, hk.2⟩ : _ ∧ k_ ≠ gb332))) (fun _ hk => hk.2) (.int .i64 ((rd_T46 x7_3 x179_4).f0))) (fun _ hk => hk.2) (.int .i64 ((rd_T46 x7_3 x179_4).f1))) (fun _ hk => trivial)⟩, ⟨by (try simp only [hl7_1]); (try simp only [hl7_2]); (try simp only [hl7_3]); (with_reducible repeat (first | refine blk_drewN ?_ _ | refine blk_drew ?_ | refine blk_alloc ?_ _)); refine blk_far ?_ NB303_332.out _; (with_reducible repeat (first | refine blk_drewN ?_ _ | refine blk_drew ?_ | refine blk_alloc ?_ _)); refine blk_far ?_ NB303_332.out _; (with_reducible repeat (first | refine blk_drewN ?_ _ | refine blk_drew ?_ | refine blk_alloc ?_ _)); exact BK303.out⟩, ⟨zs2 HB GE303 GE332⟩⟩
       rw [if_pos c59] at H
       have c59b0 : decide (0 ≤ x10_3) = true := decide_eq_true c59
       clear c59
       by_cases c60 : 0 ≤ x10_3
       rotate_left
       ·rw [if_neg c60] at H
        exact absurd H (by simp)
       rw [if_pos c60] at H
       have c60b0 : decide (0 ≤ x10_3) = true := decide_eq_true c60
       clear c60
       by_cases c61 : x10_3 < (x7_3.length : Int)
       rotate_left
       ·rw [if_neg c61] at H
        exact absurd H (by simp)
       rw [if_pos c61] at H
       have c61b0 : decide (x10_3 < (x7_3.length : Int)) = true := decide_eq_true c61
       clear c61
       obtain ⟨ji62, hji62⟩ : ∃ j_ : Int, (wrap64 (x10_3 + 1)) = j_ := ⟨_, rfl⟩
       first | rw [hji62] at H | simp only [hji62] at H
       have hji62w : (IntKind.i64.wrap (x10_3 + 1)) = ji62 := (i64_w _).trans hji62
       by_cases c63 : 0 ≤ (ji62)
       rotate_left
       ·rw [if_neg c63] at H
        exact absurd H (by simp)
       rw [if_pos c63] at H
       have c63b0 : decide (0 ≤ (ji62)) = true := decide_eq_true c63
       clear c63
       by_cases c64 : (ji62) < (x7_3.length : Int)
       rotate_left
       ·rw [if_neg c64] at H
        exact absurd H (by simp)
       rw [if_pos c64] at H
       have c64b0 : decide ((ji62) < (x7_3.length : Int)) = true := decide_eq_true c64
       clear c64
       obtain ⟨ji65, hji65⟩ : ∃ j_ : Int, (mn ((rd_T46 x7_3 x10_3).f1) (wrap64 (((rd_T46 x7_3 (ji62)).f1) - a0_0))) = j_ := ⟨_, rfl⟩
       first | rw [hji65] at H | simp only [hji65] at H
       have hji65_ : (if (wrap64 (((rd_T46 x7_3 (ji62)).f1) - a0_0)) < ((rd_T46 x7_3 x10_3).f1) then (wrap64 (((rd_T46 x7_3 (ji62)).f1) - a0_0)) else ((rd_T46 x7_3 x10_3).f1)) = ji65 := hji65
       obtain ⟨y326, hy326⟩ : ∃ y_ : List (S46), y_ = (x7_3.set (x10_3 : Int).toNat (⟨(rd_T46 x7_3 x10_3).f0, ji65⟩ : S46)) := ⟨_, rfl⟩
       replace H : (if x10_3 < (l0_2.length : Int) then (if ((rd_T88 l0_2 x10_3).f6 = true) then (impl_FlyPath_spans.l2 k3 y326 (wrap64 (x10_3 - 1)) a0_0 a0_1 l0_2 a0_3 a0_4) else (impl_FlyPath_spans.l2 k3 (y326.set (x10_3 : Int).toNat (⟨mx ((rd_T46 y326 x10_3).f0) (wrap64 (((rd_T46 y326 (ji62)).f0) - a0_1)), (rd_T46 y326 x10_3).f1⟩ : S46)) (wrap64 (x10_3 - 1)) a0_0 a0_1 l0_2 a0_3 a0_4)) else (none)) = some (r1, r2) := by first | (rw [hy326]; with_reducible exact H) | (have H2_ := (Option.bind_some _ _).symm.trans H; rw [hy326]; with_reducible exact H2_) | (have H2_ := (Option.bind_some _ _).symm.trans H; with_reducible exact H2_) | with_reducible exact H | (rw [hy326]; exact H) | exact H
       have Ny326 := zA hy326
       clear hy326
       by_cases c67 : x10_3 < (l0_2.length : Int)
       rotate_left
       ·rw [if_neg c67] at H
        exact absurd H (by simp)
       rw [if_pos c67] at H
       have c67b0 : decide (x10_3 < (l0_2.length : Int)) = true := decide_eq_true c67
       clear c67
       obtain ⟨bq68, hbq68⟩ : ∃ b_ : Bool, b_ = ((rd_T88 l0_2 x10_3).f6) := ⟨_, rfl⟩
       replace H : (if (bq68 = true) then (impl_FlyPath_spans.l2 k3 y326 (wrap64 (x10_3 - 1)) a0_0 a0_1 l0_2 a0_3 a0_4) else (impl_FlyPath_spans.l2 k3 (y326.set (x10_3 : Int).toNat (⟨mx ((rd_T46 y326 x10_3).f0) (wrap64 (((rd_T46 y326 (ji62)).f0) - a0_1)), (rd_T46 y326 x10_3).f1⟩ : S46)) (wrap64 (x10_3 - 1)) a0_0 a0_1 l0_2 a0_3 a0_4)) = some (r1, r2) := by rw [← hbq68] at H; exact H
       have Nbq68 := zA hbq68
       clear hbq68
       by_cases c69 : (bq68 = true)
       ·subst c69
        have H1 : (impl_FlyPath_spans.l2 k3 y326 (wrap64 (x10_3 - 1)) a0_0 a0_1 l0_2 a0_3 a0_4) = some (r1, r2) := by rw [if_pos rfl] at H; exact H
        clear H
        have H := H1
        clear H1
        have H' := zA H
        clear H
        try go_wp2
        replace HO_7 := zA (Kd.R_drew HO_7.out)
        replace BK303 := zA (blk_drew BK303.out)
        replace HB := zA (below_drew1 HB.out)
        have p324 : 0 ≤ (x10_3 : Int) := za
        have q324 : x10_3 < (x7_3.length : Int) := za
        obtain ⟨ad324, e324, hx324_0, hx324_1⟩ := at_T46 (Kd.R_reads' HO_7.out).2.2 x10_3 p324 q324
        cases e324
        replace p324 := eq_true p324
        replace q324 := eq_true q324
        have p325 : 0 ≤ ((ji62) : Int) := za
        have q325 : (ji62) < (x7_3.length : Int) := za
        obtain ⟨ad325, e325, hx325_0, hx325_1⟩ := at_T46 (Kd.R_reads' HO_7.out).2.2 (ji62) p325 q325
        obtain rfl : ad324 = ad325 := (by injection e325)
        replace p325 := eq_true p325
        replace q325 := eq_true q325
        have p66 : 0 ≤ (x10_3 : Int) := za
        have q66 : (x10_3 : Int) < ((x7_3.length : Int) : Int) := za
        obtain ⟨go66, co66, eo66, gb66, gl66, cl66, HG66⟩ := Kd.R_form HO_7.out (by omega)
        (first | cases eo66 | (injection eo66 with ea_ en_ ec_; (first | subst ea_ | (injection ea_ with ea_; subst ea_)); subst ec_; clear en_))
        have GB66 := zA gb66
        have GG66 := zA HG66
        clear gb66 gl66 HG66
        (first | simp only [add_plain] at hx324_0 | skip)
        (first | simp only [add_plain] at hx324_1 | skip)
        (first | simp only [add_plain] at hx325_0 | skip)
        (first | simp only [add_plain] at hx325_1 | skip)
        obtain ⟨ce66, hcl66, hM66, hcc66, hfr66⟩ := Kd.R_elem HO_7.out z46 (x10_3 : Int) p66 q66
        obtain rfl := k46_openM hM66
        have hx66_0 : World.cell? _ ⟨go66, (x10_3 : Int).toNat * 2, none⟩ = some (.int .i64 ((rd_T46 x7_3 x10_3).f0)) := hcc66 0 _ rfl
        have hx66_1 : World.cell? _ ⟨go66, (x10_3 : Int).toNat * 2 + 1, none⟩ = some (.int .i64 ((rd_T46 x7_3 x10_3).f1)) := hcc66 1 _ rfl
        have hf66_0 : World.frozen? _ ⟨go66, (x10_3 : Int).toNat * 2, none⟩ = false := hfr66 0
        have hf66_1 : World.frozen? _ ⟨go66, (x10_3 : Int).toNat * 2 + 1, none⟩ = false := hfr66 1
        clear hcl66 hcc66 hfr66 hM66
        replace p66 := eq_true p66
        replace q66 := eq_true q66
        obtain ⟨ce71, hcl71, hM71, hcc71, hfr71⟩ := Kd.R_elem HO_7.out z46 (x10_3 : Int) (za) (by have h_ : (x10_3 : Int) < ((x7_3.length : Int) : Int) := za; first | exact h_ | (have e_ := (Kd.R_reads' HO_7.out).1; omega) | simpa using h_)
        obtain rfl := k46_openM hM71
        have HP71 := (Kd.R_seg HO_7.out (x10_3 : Int) (za) (by have h_ : (x10_3 : Int) < ((x7_3.length : Int) : Int) := za; first | exact h_ | (have e_ := (Kd.R_reads' HO_7.out).1; omega) | simpa using h_) (seg := [.int .i64 ji65]) (j := 1) hcl71 hcc71 (show 2 ≤ 2 from by decide) (x' := (⟨(rd_T46 x7_3 x10_3).f0, ji65⟩ : S46)) (k46_mkM _ _ _ (⟨(rd_T46 x7_3 x10_3).f0, ji65⟩ : S46) ) (fun _ hk => hk)).1
        rw [← Ny326.out] at HP71
        have HQ71 := zA HP71
        clear hcl71 hcc71 hfr71 hM71 HP71
        refine start_ (n := 21) (S := fun w' => w'.cell? ⟨gb303, 0, none⟩ = some (.int .i64 a0_0) ∧ w'.cell? ⟨gb303, 1, none⟩ = some (.int .i64 a0_1) ∧ w'.cell? ⟨gb303, 2, none⟩ = some (.slice A0_2 l0_2.length c0_2) ∧ w'.cell? ⟨gb303, 3, none⟩ = some (.int .i64 a0_3) ∧ w'.cell? ⟨gb303, 4, none⟩ = some (.int .i64 a0_4) ∧ w'.cell? ⟨go66, ((x10_3).toNat * 2), none⟩ = some (.int .i64 ((rd_T46 x7_3 x10_3).f0)) ∧ w'.cell? ⟨go66, ((x10_3).toNat * 2) + 1, none⟩ = some (.int .i64 ((rd_T46 x7_3 x10_3).f1)) ∧ w'.cell? ⟨go66, (((ji62)).toNat * 2), none⟩ = some (.int .i64 ((rd_T46 x7_3 (ji62)).f0)) ∧ w'.cell? ⟨go66, (((ji62)).toNat * 2) + 1, none⟩ = some (.int .i64 ((rd_T46 x7_3 (ji62)).f1))) (ds := [20]) #[F,F,F,F,F,F,F,F,F,F,F,F,F,F,F,F,F,F,F,F,F] (by kernel_rfl) rfl rfl ⟨zc0 BK303, zc1 BK303, zc2 BK303, zc3 BK303, zc4 BK303, hx324_0, hx324_1, hx325_0, hx325_1⟩ (fun hHeld => ?_); refine with_tabW impl_FlyPath_spans.tab19 impl_FlyPath_spans.bits19 (fun HT_ HW_ => ?_)
        generalize wr.drew = w70 at HO_7 BK303 HB GG66 HQ71 hf66_0 hf66_1 hx324_0 hx324_1 hx325_0 hx325_1 hx66_0 hx66_1 hHeld ⊢
        refine zq HT_ 0 ?_
        refine zq HT_ 1 ?_
        refine zq HT_ 2 ?_
        refine zq HT_ 3 ?_
        refine zq HT_ 4 ?_
        refine zq HT_ 5 ?_
        refine zq HT_ 7 ?_
        refine zq HT_ 8 ?_
        refine zq HT_ 9 ?_
        refine zq HT_ 10 ?_
        refine zq HT_ 11 ?_
        refine zq HT_ 13 ?_
        refine zq HT_ 14 ?_
        refine zk9 HT_ HW_ hHeld 6 ?_
        refine zk9 HT_ HW_ hHeld 12 ?_
        refine zk9 HT_ HW_ hHeld 15 ?_
        refine zq HT_ 16 ?_
        refine zq HT_ 17 ?_
        refine zq HT_ 18 ?_
        refine zq HT_ 19 ?_
        refine zO HT_ 20 (fun K hK => ?_)
        refine skip_ (w1 := ?_) (by rfl) rfl ?_ ?_
        rotate_left
        ·go_simp
         rfl
        refine hK.out _ _ ?_
        clear hK K
        refine done_ (done_of HT_.out (by kernel_rfl)) ?_
        obtain ⟨hcz72_0, hcz72_1, hcz72_2, hcz72_3, hcz72_4⟩ := zd5 BK303
        obtain ⟨hfz72_0, hfz72_1, hfz72_2, hfz72_3, hfz72_4⟩ := zn5 BK303
        have p327 : 0 ≤ (x10_3 : Int) := za
        have q327 : x10_3 < (l0_2.length : Int) := za
        obtain ⟨ad327, e327, hx327_0, hx327_1, hx327_2, hx327_3, hx327_4, hx327_5, hx327_6⟩ := at_T88 HR0_2.out x10_3 p327 q327
        (try rw [← Nbq68.out] at hx327_6)
        cases e327
        have hn327_0 : ad327.block ≠ go66 := Nat.ne_of_lt (Nat.lt_of_lt_of_le (by have := World.block_lt_of_cell? _ _ hx327_0; first | rwa [add_block] at this | exact this) GB66.out)
        replace hx327_0 := zx HB hx327_0
        replace hx327_1 := zx HB hx327_1
        replace hx327_2 := zx HB hx327_2
        replace hx327_3 := zx HB hx327_3
        replace hx327_4 := zx HB hx327_4
        replace hx327_5 := zx HB hx327_5
        replace hx327_6 := zx HB hx327_6
        replace hx327_0 := (cell_far (p := ⟨go66, (x10_3 : Int).toNat * 2 + 1, none⟩) (by first | (rw [add_block]; exact hn327_0) | (show (Addr.add _ _).block ≠ _; rw [add_block]; exact hn327_0) | exact hn327_0) (.int .i64 ji65)).trans hx327_0
        replace hx327_1 := (cell_far (p := ⟨go66, (x10_3 : Int).toNat * 2 + 1, none⟩) (by first | (rw [add_block]; exact hn327_0) | (show (Addr.add _ _).block ≠ _; rw [add_block]; exact hn327_0) | exact hn327_0) (.int .i64 ji65)).trans hx327_1
        replace hx327_2 := (cell_far (p := ⟨go66, (x10_3 : Int).toNat * 2 + 1, none⟩) (by first | (rw [add_block]; exact hn327_0) | (show (Addr.add _ _).block ≠ _; rw [add_block]; exact hn327_0) | exact hn327_0) (.int .i64 ji65)).trans hx327_2
        replace hx327_3 := (cell_far (p := ⟨go66, (x10_3 : Int).toNat * 2 + 1, none⟩) (by first | (rw [add_block]; exact hn327_0) | (show (Addr.add _ _).block ≠ _; rw [add_block]; exact hn327_0) | exact hn327_0) (.int .i64 ji65)).trans hx327_3
        replace hx327_4 := (cell_far (p := ⟨go66, (x10_3 : Int).toNat * 2 + 1, none⟩) (by first | (rw [add_block]; exact hn327_0) | (show (Addr.add _ _).block ≠ _; rw [add_block]; exact hn327_0) | exact hn327_0) (.int .i64 ji65)).trans hx327_4
        replace hx327_5 := (cell_far (p := ⟨go66, (x10_3 : Int).toNat * 2 + 1, none⟩) (by first | (rw [add_block]; exact hn327_0) | (show (Addr.add _ _).block ≠ _; rw [add_block]; exact hn327_0) | exact hn327_0) (.int .i64 ji65)).trans hx327_5
        replace hx327_6 := (cell_far (p := ⟨go66, (x10_3 : Int).toNat * 2 + 1, none⟩) (by first | (rw [add_block]; exact hn327_0) | (show (Addr.add _ _).block ≠ _; rw [add_block]; exact hn327_0) | exact hn327_0) (.int .i64 ji65)).trans hx327_6
        clear hn327_0
        replace p327 := eq_true p327
        replace q327 := eq_true q327
        have hne_ : gb303 ≠ go66 := (by have h_ := Kd.R_ne HO_7.out BK303.out (by decide); intro e_; exact h_ (by rw [e_]; rfl))
        have hy0_ := (cell_far (p := ⟨go66, (x10_3 : Int).toNat * 2 + 1, none⟩) (a := ⟨gb303, 0, none⟩) hne_ (.int .i64 ji65)).trans (zc0 BK303)
        have hy1_ := (cell_far (p := ⟨go66, (x10_3 : Int).toNat * 2 + 1, none⟩) (a := ⟨gb303, 1, none⟩) hne_ (.int .i64 ji65)).trans (zc1 BK303)
        have hy2_ := (cell_far (p := ⟨go66, (x10_3 : Int).toNat * 2 + 1, none⟩) (a := ⟨gb303, 2, none⟩) hne_ (.int .i64 ji65)).trans (zc2 BK303)
        have hy3_ := (cell_far (p := ⟨go66, (x10_3 : Int).toNat * 2 + 1, none⟩) (a := ⟨gb303, 3, none⟩) hne_ (.int .i64 ji65)).trans (zc3 BK303)
        have hy4_ := (cell_far (p := ⟨go66, (x10_3 : Int).toNat * 2 + 1, none⟩) (a := ⟨gb303, 4, none⟩) hne_ (.int .i64 ji65)).trans (zc4 BK303)
        try go_wp2
        (try simp only [← hl7_3])
        go_roundg k3
        case measure => have := HK1.out; have := HK2.out; have := HK3.out; omega
        case rel => exact ⟨(y326), (wrap64 (x10_3 - 1)), zi, H', ⟨by have := HK1.out; have := HK2.out; have := HK3.out; omega⟩, ⟨by (try simp only [hl7_1]); (try simp only [hl7_2]); (try simp only [hl7_3]); (with_reducible repeat (first | apply Kd.R_alloc | apply Kd.R_drewN | apply Kd.R_drew)); exact HQ71.out⟩, ⟨by (try simp only [hl7_1]); (try simp only [hl7_2]); (try simp only [hl7_3]); (with_reducible repeat (first | refine blk_drewN ?_ _ | refine blk_drew ?_ | refine blk_alloc ?_ _)); refine blk_far ?_ (by have h_ := Kd.R_ne HO_7.out BK303.out (by decide); intro e_; exact h_ (by rw [e_]; rfl)) _; (with_reducible repeat (first | refine blk_drewN ?_ _ | refine blk_drew ?_ | refine blk_alloc ?_ _)); exact BK303.out⟩, ⟨by repeat (first | (with_reducible first | exact HB.out | apply below_alloc | apply pw_below_drewN | apply below_drew1 | refine below_set ?_ GB66.out | refine below_set ?_ GE303.out) | exact HB.out)⟩⟩
       replace c69 := Bool.eq_false_iff.mpr c69
       subst c69
       have H1 : (impl_FlyPath_spans.l2 k3 (y326.set (x10_3 : Int).toNat (⟨mx ((rd_T46 y326 x10_3).f0) (wrap64 (((rd_T46 y326 (ji62)).f0) - a0_1)), (rd_T46 y326 x10_3).f1⟩ : S46)) (wrap64 (x10_3 - 1)) a0_0 a0_1 l0_2 a0_3 a0_4) = some (r1, r2) := by rw [if_neg (show ¬ (false = true) by decide)] at H; exact H
       clear H
       have H := H1
       clear H1
       obtain ⟨ji73, hji73⟩ : ∃ j_ : Int, (mx ((rd_T46 y326 x10_3).f0) (wrap64 (((rd_T46 y326 (ji62)).f0) - a0_1))) = j_ := ⟨_, rfl⟩
       first | rw [hji73] at H | simp only [hji73] at H
       have hji73_ : (if ((rd_T46 y326 x10_3).f0) < (wrap64 (((rd_T46 y326 (ji62)).f0) - a0_1)) then (wrap64 (((rd_T46 y326 (ji62)).f0) - a0_1)) else ((rd_T46 y326 x10_3).f0)) = ji73 := hji73
       obtain ⟨y330, hy330⟩ : ∃ y_ : List (S46), y_ = (y326.set (x10_3 : Int).toNat (⟨ji73, (rd_T46 y326 x10_3).f1⟩ : S46)) := ⟨_, rfl⟩
       replace H : (impl_FlyPath_spans.l2 k3 y330 (wrap64 (x10_3 - 1)) a0_0 a0_1 l0_2 a0_3 a0_4) = some (r1, r2) := by first | (rw [hy330]; with_reducible exact H) | (have H2_ := (Option.bind_some _ _).symm.trans H; rw [hy330]; with_reducible exact H2_) | (have H2_ := (Option.bind_some _ _).symm.trans H; with_reducible exact H2_) | with_reducible exact H | (rw [hy330]; exact H) | exact H
       have Ny330 := zA hy330
       clear hy330
       have H' := zA H
       clear H
       try go_wp2
       replace HO_7 := zA (Kd.R_drew HO_7.out)
       replace BK303 := zA (blk_drew BK303.out)
       replace HB := zA (below_drew1 HB.out)
       have p324 : 0 ≤ (x10_3 : Int) := za
       have q324 : x10_3 < (x7_3.length : Int) := za
       obtain ⟨ad324, e324, hx324_0, hx324_1⟩ := at_T46 (Kd.R_reads' HO_7.out).2.2 x10_3 p324 q324
       cases e324
       replace p324 := eq_true p324
       replace q324 := eq_true q324
       have p325 : 0 ≤ ((ji62) : Int) := za
       have q325 : (ji62) < (x7_3.length : Int) := za
       obtain ⟨ad325, e325, hx325_0, hx325_1⟩ := at_T46 (Kd.R_reads' HO_7.out).2.2 (ji62) p325 q325
       obtain rfl : ad324 = ad325 := (by injection e325)
       replace p325 := eq_true p325
       replace q325 := eq_true q325
       have p66 : 0 ≤ (x10_3 : Int) := za
       have q66 : (x10_3 : Int) < ((x7_3.length : Int) : Int) := za
       obtain ⟨go66, co66, eo66, gb66, gl66, cl66, HG66⟩ := Kd.R_form HO_7.out (by omega)
       (first | cases eo66 | (injection eo66 with ea_ en_ ec_; (first | subst ea_ | (injection ea_ with ea_; subst ea_)); subst ec_; clear en_))
       have GB66 := zA gb66
       have GG66 := zA HG66
       clear gb66 gl66 HG66
       (first | simp only [add_plain] at hx324_0 | skip)
       (first | simp only [add_plain] at hx324_1 | skip)
       (first | simp only [add_plain] at hx325_0 | skip)
       (first | simp only [add_plain] at hx325_1 | skip)
       obtain ⟨ce66, hcl66, hM66, hcc66, hfr66⟩ := Kd.R_elem HO_7.out z46 (x10_3 : Int) p66 q66
       obtain rfl := k46_openM hM66
       have hx66_0 : World.cell? _ ⟨go66, (x10_3 : Int).toNat * 2, none⟩ = some (.int .i64 ((rd_T46 x7_3 x10_3).f0)) := hcc66 0 _ rfl
       have hx66_1 : World.cell? _ ⟨go66, (x10_3 : Int).toNat * 2 + 1, none⟩ = some (.int .i64 ((rd_T46 x7_3 x10_3).f1)) := hcc66 1 _ rfl
       have hf66_0 : World.frozen? _ ⟨go66, (x10_3 : Int).toNat * 2, none⟩ = false := hfr66 0
       have hf66_1 : World.frozen? _ ⟨go66, (x10_3 : Int).toNat * 2 + 1, none⟩ = false := hfr66 1
       clear hcl66 hcc66 hfr66 hM66
       replace p66 := eq_true p66
       replace q66 := eq_true q66
       obtain ⟨ce76, hcl76, hM76, hcc76, hfr76⟩ := Kd.R_elem HO_7.out z46 (x10_3 : Int) (za) (by have h_ : (x10_3 : Int) < ((x7_3.length : Int) : Int) := za; first | exact h_ | (have e_ := (Kd.R_reads' HO_7.out).1; omega) | simpa using h_)
       obtain rfl := k46_openM hM76
       have HP76 := (Kd.R_seg HO_7.out (x10_3 : Int) (za) (by have h_ : (x10_3 : Int) < ((x7_3.length : Int) : Int) := za; first | exact h_ | (have e_ := (Kd.R_reads' HO_7.out).1; omega) | simpa using h_) (seg := [.int .i64 ji65]) (j := 1) hcl76 hcc76 (show 2 ≤ 2 from by decide) (x' := (⟨(rd_T46 x7_3 x10_3).f0, ji65⟩ : S46)) (k46_mkM _ _ _ (⟨(rd_T46 x7_3 x10_3).f0, ji65⟩ : S46) ) (fun _ hk => hk)).1
       rw [← Ny326.out] at HP76
       have HQ76 := zA HP76
       clear hcl76 hcc76 hfr76 hM76 HP76
       refine start_ (n := 21) (S := fun w' => w'.cell? ⟨gb303, 0, none⟩ = some (.int .i64 a0_0) ∧ w'.cell? ⟨gb303, 1, none⟩ = some (.int .i64 a0_1) ∧ w'.cell? ⟨gb303, 2, none⟩ = some (.slice A0_2 l0_2.length c0_2) ∧ w'.cell? ⟨gb303, 3, none⟩ = some (.int .i64 a0_3) ∧ w'.cell? ⟨gb303, 4, none⟩ = some (.int .i64 a0_4) ∧ w'.cell? ⟨go66, ((x10_3).toNat * 2), none⟩ = some (.int .i64 ((rd_T46 x7_3 x10_3).f0)) ∧ w'.cell? ⟨go66, ((x10_3).toNat * 2) + 1, none⟩ = some (.int .i64 ((rd_T46 x7_3 x10_3).f1)) ∧ w'.cell? ⟨go66, (((ji62)).toNat * 2), none⟩ = some (.int .i64 ((rd_T46 x7_3 (ji62)).f0)) ∧ w'.cell? ⟨go66, (((ji62)).toNat * 2) + 1, none⟩ = some (.int .i64 ((rd_T46 x7_3 (ji62)).f1))) (ds := [20]) #[F,F,F,F,F,F,F,F,F,F,F,F,F,F,F,F,F,F,F,F,F] (by kernel_rfl) rfl rfl ⟨zc0 BK303, zc1 BK303, zc2 BK303, zc3 BK303, zc4 BK303, hx324_0, hx324_1, hx325_0, hx325_1⟩ (fun hHeld => ?_); refine with_tabW impl_FlyPath_spans.tab19 impl_FlyPath_spans.bits19 (fun HT_ HW_ => ?_)
       generalize wr.drew = w75 at HO_7 BK303 HB GG66 HQ76 hf66_0 hf66_1 hx324_0 hx324_1 hx325_0 hx325_1 hx66_0 hx66_1 hHeld ⊢
       refine zq HT_ 0 ?_
       refine zq HT_ 1 ?_
       refine zq HT_ 2 ?_
       refine zq HT_ 3 ?_
       refine zq HT_ 4 ?_
       refine zq HT_ 5 ?_
       refine zq HT_ 7 ?_
       refine zq HT_ 8 ?_
       refine zq HT_ 9 ?_
       refine zq HT_ 10 ?_
       refine zq HT_ 11 ?_
       refine zq HT_ 13 ?_
       refine zq HT_ 14 ?_
       refine zk9 HT_ HW_ hHeld 6 ?_
       refine zk9 HT_ HW_ hHeld 12 ?_
       refine zk9 HT_ HW_ hHeld 15 ?_
       refine zq HT_ 16 ?_
       refine zq HT_ 17 ?_
       refine zq HT_ 18 ?_
       refine zq HT_ 19 ?_
       refine zO HT_ 20 (fun K hK => ?_)
       refine skip_ (w1 := ?_) (by rfl) rfl ?_ ?_
       rotate_left
       ·go_simp
        rfl
       refine hK.out _ _ ?_
       clear hK K
       refine done_ (done_of HT_.out (by kernel_rfl)) ?_
       obtain ⟨hcz77_0, hcz77_1, hcz77_2, hcz77_3, hcz77_4⟩ := zd5 BK303
       obtain ⟨hfz77_0, hfz77_1, hfz77_2, hfz77_3, hfz77_4⟩ := zn5 BK303
       have p327 : 0 ≤ (x10_3 : Int) := za
       have q327 : x10_3 < (l0_2.length : Int) := za
       obtain ⟨ad327, e327, hx327_0, hx327_1, hx327_2, hx327_3, hx327_4, hx327_5, hx327_6⟩ := at_T88 HR0_2.out x10_3 p327 q327
       (try rw [← Nbq68.out] at hx327_6)
       cases e327
       have hn327_0 : ad327.block ≠ go66 := Nat.ne_of_lt (Nat.lt_of_lt_of_le (by have := World.block_lt_of_cell? _ _ hx327_0; first | rwa [add_block] at this | exact this) GB66.out)
       replace hx327_0 := zx HB hx327_0
       replace hx327_1 := zx HB hx327_1
       replace hx327_2 := zx HB hx327_2
       replace hx327_3 := zx HB hx327_3
       replace hx327_4 := zx HB hx327_4
       replace hx327_5 := zx HB hx327_5
       replace hx327_6 := zx HB hx327_6
       replace hx327_0 := (cell_far (p := ⟨go66, (x10_3 : Int).toNat * 2 + 1, none⟩) (by first | (rw [add_block]; exact hn327_0) | (show (Addr.add _ _).block ≠ _; rw [add_block]; exact hn327_0) | exact hn327_0) (.int .i64 ji65)).trans hx327_0
       replace hx327_1 := (cell_far (p := ⟨go66, (x10_3 : Int).toNat * 2 + 1, none⟩) (by first | (rw [add_block]; exact hn327_0) | (show (Addr.add _ _).block ≠ _; rw [add_block]; exact hn327_0) | exact hn327_0) (.int .i64 ji65)).trans hx327_1
       replace hx327_2 := (cell_far (p := ⟨go66, (x10_3 : Int).toNat * 2 + 1, none⟩) (by first | (rw [add_block]; exact hn327_0) | (show (Addr.add _ _).block ≠ _; rw [add_block]; exact hn327_0) | exact hn327_0) (.int .i64 ji65)).trans hx327_2
       replace hx327_3 := (cell_far (p := ⟨go66, (x10_3 : Int).toNat * 2 + 1, none⟩) (by first | (rw [add_block]; exact hn327_0) | (show (Addr.add _ _).block ≠ _; rw [add_block]; exact hn327_0) | exact hn327_0) (.int .i64 ji65)).trans hx327_3
       replace hx327_4 := (cell_far (p := ⟨go66, (x10_3 : Int).toNat * 2 + 1, none⟩) (by first | (rw [add_block]; exact hn327_0) | (show (Addr.add _ _).block ≠ _; rw [add_block]; exact hn327_0) | exact hn327_0) (.int .i64 ji65)).trans hx327_4
       replace hx327_5 := (cell_far (p := ⟨go66, (x10_3 : Int).toNat * 2 + 1, none⟩) (by first | (rw [add_block]; exact hn327_0) | (show (Addr.add _ _).block ≠ _; rw [add_block]; exact hn327_0) | exact hn327_0) (.int .i64 ji65)).trans hx327_5
       replace hx327_6 := (cell_far (p := ⟨go66, (x10_3 : Int).toNat * 2 + 1, none⟩) (by first | (rw [add_block]; exact hn327_0) | (show (Addr.add _ _).block ≠ _; rw [add_block]; exact hn327_0) | exact hn327_0) (.int .i64 ji65)).trans hx327_6
       clear hn327_0
       replace p327 := eq_true p327
       replace q327 := eq_true q327
       have hne_ : gb303 ≠ go66 := (by have h_ := Kd.R_ne HO_7.out BK303.out (by decide); intro e_; exact h_ (by rw [e_]; rfl))
       have hy0_ := (cell_far (p := ⟨go66, (x10_3 : Int).toNat * 2 + 1, none⟩) (a := ⟨gb303, 0, none⟩) hne_ (.int .i64 ji65)).trans (zc0 BK303)
       have hy1_ := (cell_far (p := ⟨go66, (x10_3 : Int).toNat * 2 + 1, none⟩) (a := ⟨gb303, 1, none⟩) hne_ (.int .i64 ji65)).trans (zc1 BK303)
       have hy2_ := (cell_far (p := ⟨go66, (x10_3 : Int).toNat * 2 + 1, none⟩) (a := ⟨gb303, 2, none⟩) hne_ (.int .i64 ji65)).trans (zc2 BK303)
       have hy3_ := (cell_far (p := ⟨go66, (x10_3 : Int).toNat * 2 + 1, none⟩) (a := ⟨gb303, 3, none⟩) hne_ (.int .i64 ji65)).trans (zc3 BK303)
       have hy4_ := (cell_far (p := ⟨go66, (x10_3 : Int).toNat * 2 + 1, none⟩) (a := ⟨gb303, 4, none⟩) hne_ (.int .i64 ji65)).trans (zc4 BK303)
       try go_wp2
       obtain ⟨w78, e_⟩ : ∃ x, x = (w75.setCell ⟨go66, (x10_3 : Int).toNat * 2 + 1, none⟩ (.int .i64 ji65)) := ⟨_, rfl⟩
       have n0_ : Aside0 (Kd.R k46 46 w78 w.heap.size (fun _ => True) (.slice (some ⟨go66, 0, none⟩) x7_3.length co10) y326) := by rw [e_]; exact ⟨zr HQ76⟩
       have n1_ : Aside0 (w78.heap[gb303]? = some (.cells #[.int .i64 a0_0, .int .i64 a0_1, .slice (some ad327) l0_2.length c0_2, .int .i64 a0_3, .int .i64 a0_4] 34 (0, 0))) := by rw [e_]; exact ⟨by (with_reducible repeat (first | refine blk_drewN ?_ _ | refine blk_drew ?_ | refine blk_alloc ?_ _)); refine blk_far ?_ (by have h_ := Kd.R_ne HO_7.out BK303.out (by decide); intro e_; exact h_ (by rw [e_]; rfl)) _; (with_reducible repeat (first | refine blk_drewN ?_ _ | refine blk_drew ?_ | refine blk_alloc ?_ _)); exact BK303.out⟩
       have n2_ : Aside0 (Below w.heap.size w w78) := by rw [e_]; exact ⟨by repeat (first | (with_reducible first | exact HB.out | apply below_alloc | apply pw_below_drewN | apply below_drew1 | refine below_set ?_ GB66.out | refine below_set ?_ GE303.out) | exact HB.out)⟩
       (try clear HO_7)
       (try clear BK303)
       (try clear HB)
       rw [← e_]; clear e_
       have HO_7 := n0_
       have BK303 := n1_
       have HB := n2_
       clear n0_ n1_ n2_
       replace HO_7 := zA (Kd.R_drew HO_7.out)
       replace BK303 := zA (blk_drew BK303.out)
       replace HB := zA (below_drew1 HB.out)
       have p328 : 0 ≤ (x10_3 : Int) := za
       have q328 : x10_3 < (y326.length : Int) := (by have h_ : (x10_3 : Int) < ((x7_3.length : Int) : Int) := za; first | (have e_ := (Kd.R_reads' HO_7.out).1; omega) | simpa only [Ny326.out, List.length_set] using h_)
       have ql328 : ((x10_3 : Int) < ((x7_3.length : Int) : Int)) = True := eq_true (za)
       obtain ⟨ad328, e328, hx328_0, hx328_1⟩ := at_T46 (Kd.R_reads' HO_7.out).2.2 x10_3 p328 q328
       obtain rfl : (⟨go66, 0, none⟩ : Addr) = ad328 := (by injection e328)
       (first | simp only [add_plain] at hx328_0 | simp only [add_at] at hx328_0 | simp only [Addr.add, Nat.zero_add] at hx328_0 | skip)
       (first | simp only [add_plain] at hx328_1 | simp only [add_at] at hx328_1 | simp only [Addr.add, Nat.zero_add] at hx328_1 | skip)
       replace p328 := eq_true p328
       replace q328 := eq_true q328
       have p329 : 0 ≤ ((ji62) : Int) := za
       have q329 : (ji62) < (y326.length : Int) := (by have h_ : ((ji62) : Int) < ((x7_3.length : Int) : Int) := za; first | (have e_ := (Kd.R_reads' HO_7.out).1; omega) | simpa only [Ny326.out, List.length_set] using h_)
       have ql329 : (((ji62) : Int) < ((x7_3.length : Int) : Int)) = True := eq_true (za)
       obtain ⟨ad329, e329, hx329_0, hx329_1⟩ := at_T46 (Kd.R_reads' HO_7.out).2.2 (ji62) p329 q329
       obtain rfl : (⟨go66, 0, none⟩ : Addr) = ad329 := (by injection e329)
       (first | simp only [add_plain] at hx329_0 | simp only [add_at] at hx329_0 | simp only [Addr.add, Nat.zero_add] at hx329_0 | skip)
       (first | simp only [add_plain] at hx329_1 | simp only [add_at] at hx329_1 | simp only [Addr.add, Nat.zero_add] at hx329_1 | skip)
       replace p329 := eq_true p329
       replace q329 := eq_true q329
       have p74 : 0 ≤ (x10_3 : Int) := za
       have q74 : (x10_3 : Int) < ((x7_3.length : Int) : Int) := za
       obtain ⟨ce74, hcl74, hM74, hcc74, hfr74⟩ := Kd.R_elem HO_7.out z46 (x10_3 : Int) p74 q74
       obtain rfl := k46_openM hM74
       have hx74_0 : World.cell? _ ⟨go66, (x10_3 : Int).toNat * 2, none⟩ = some (.int .i64 ((rd_T46 y326 x10_3).f0)) := hcc74 0 _ rfl
       have hx74_1 : World.cell? _ ⟨go66, (x10_3 : Int).toNat * 2 + 1, none⟩ = some (.int .i64 ((rd_T46 y326 x10_3).f1)) := hcc74 1 _ rfl
       have hf74_0 : World.frozen? _ ⟨go66, (x10_3 : Int).toNat * 2, none⟩ = false := hfr74 0
       have hf74_1 : World.frozen? _ ⟨go66, (x10_3 : Int).toNat * 2 + 1, none⟩ = false := hfr74 1
       clear hcl74 hcc74 hfr74 hM74
       replace p74 := eq_true p74
       replace q74 := eq_true q74
       obtain ⟨ce80, hcl80, hM80, hcc80, hfr80⟩ := Kd.R_elem HO_7.out z46 (x10_3 : Int) (za) (by have h_ : (x10_3 : Int) < ((x7_3.length : Int) : Int) := za; first | exact h_ | (have e_ := (Kd.R_reads' HO_7.out).1; omega) | simpa using h_)
       obtain rfl := k46_openM hM80
       have HP80 := (Kd.R_seg HO_7.out (x10_3 : Int) (za) (by have h_ : (x10_3 : Int) < ((x7_3.length : Int) : Int) := za; first | exact h_ | (have e_ := (Kd.R_reads' HO_7.out).1; omega) | simpa using h_) (seg := [.int .i64 ji73]) (j := 0) hcl80 hcc80 (show 1 ≤ 2 from by decide) (x' := (⟨ji73, (rd_T46 y326 x10_3).f1⟩ : S46)) (k46_mkM _ _ _ (⟨ji73, (rd_T46 y326 x10_3).f1⟩ : S46) ) (fun _ hk => hk)).1
       rw [← Ny330.out] at HP80
       have HQ80 := zA HP80
       clear hcl80 hcc80 hfr80 hM80 HP80
       refine start_ (n := 21) (S := fun w' => w'.cell? ⟨gb303, 0, none⟩ = some (.int .i64 a0_0) ∧ w'.cell? ⟨gb303, 1, none⟩ = some (.int .i64 a0_1) ∧ w'.cell? ⟨gb303, 2, none⟩ = some (.slice (some ad327) l0_2.length c0_2) ∧ w'.cell? ⟨gb303, 3, none⟩ = some (.int .i64 a0_3) ∧ w'.cell? ⟨gb303, 4, none⟩ = some (.int .i64 a0_4) ∧ w'.cell? ⟨go66, (x10_3).toNat * 2, none⟩ = some (.int .i64 ((rd_T46 y326 x10_3).f0)) ∧ w'.cell? ⟨go66, (x10_3).toNat * 2 + 1, none⟩ = some (.int .i64 ((rd_T46 y326 x10_3).f1)) ∧ w'.cell? ⟨go66, ((ji62)).toNat * 2, none⟩ = some (.int .i64 ((rd_T46 y326 (ji62)).f0)) ∧ w'.cell? ⟨go66, ((ji62)).toNat * 2 + 1, none⟩ = some (.int .i64 ((rd_T46 y326 (ji62)).f1))) (ds := [20]) #[F,F,F,F,F,F,F,F,F,F,F,F,F,F,F,F,F,F,F,F,F] (by kernel_rfl) rfl rfl ⟨zc0 BK303, zc1 BK303, zc2 BK303, zc3 BK303, zc4 BK303, hx328_0, hx328_1, hx329_0, hx329_1⟩ (fun hHeld => ?_); refine with_tabW impl_FlyPath_spans.tab21 impl_FlyPath_spans.bits21 (fun HT_ HW_ => ?_)
       generalize w78.drew = w79 at HO_7 BK303 HB HQ76 HQ80 hf74_0 hf74_1 hx328_0 hx328_1 hx329_0 hx329_1 hx74_0 hx74_1 hHeld ⊢
       refine zq HT_ 0 ?_
       refine zq HT_ 1 ?_
       refine zq HT_ 2 ?_
       refine zq HT_ 3 ?_
       refine zq HT_ 4 ?_
       refine zq HT_ 5 ?_
       refine zq HT_ 7 ?_
       refine zq HT_ 8 ?_
       refine zq HT_ 9 ?_
       refine zq HT_ 10 ?_
       refine zq HT_ 11 ?_
       refine zq HT_ 13 ?_
       refine zq HT_ 14 ?_
       refine zk9 HT_ HW_ hHeld 6 ?_
       refine zk9 HT_ HW_ hHeld 12 ?_
       refine zk9 HT_ HW_ hHeld 15 ?_
       refine zq HT_ 16 ?_
       refine zq HT_ 17 ?_
       refine zq HT_ 18 ?_
       refine zq HT_ 19 ?_
       refine zO HT_ 20 (fun K hK => ?_)
       refine skip_ (w1 := ?_) (by rfl) rfl ?_ ?_
       rotate_left
       ·go_simp
        rfl
       refine hK.out _ _ ?_
       clear hK K
       refine done_ (done_of HT_.out (by kernel_rfl)) ?_
       try go_wp2
       (try simp only [← hl7_3])
       go_roundg k3
       case measure => have := HK1.out; have := HK2.out; have := HK3.out; omega
       case rel => exact ⟨(y330), (wrap64 (x10_3 - 1)), zi, H', ⟨by have := HK1.out; have := HK2.out; have := HK3.out; omega⟩, ⟨by (try simp only [hl7_1]); (try simp only [hl7_2]); (try simp only [hl7_3]); (with_reducible repeat (first | apply Kd.R_alloc | apply Kd.R_drewN | apply Kd.R_drew)); exact HQ80.out⟩, ⟨by (try simp only [hl7_1]); (try simp only [hl7_2]); (try simp only [hl7_3]); (with_reducible repeat (first | refine blk_drewN ?_ _ | refine blk_drew ?_ | refine blk_alloc ?_ _)); refine blk_far ?_ (by have h_ := Kd.R_ne HO_7.out BK303.out (by decide); intro e_; exact h_ (by rw [e_]; rfl)) _; (with_reducible repeat (first | refine blk_drewN ?_ _ | refine blk_drew ?_ | refine blk_alloc ?_ _)); exact BK303.out⟩, ⟨by repeat (first | (with_reducible first | exact HB.out | apply below_alloc | apply pw_below_drewN | apply below_drew1 | refine below_set ?_ GB66.out | refine below_set ?_ GE303.out) | exact HB.out)⟩⟩
end Go.Proofs.Ytidenmcoilmbcaa.QFnExactFlyGo
