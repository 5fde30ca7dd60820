/- The walk of what the law FnExactFlyGo reaches: laid by a program of this session (ownprint.py). -/
import Derived.Test.YtidenmcoilmbcaaQFnExactFlyGox0
import Derived.Test.YtidenmcoilmbcaaQFnExactFlyGox1
namespace Go.Proofs.Ytidenmcoilmbcaa.QFnExactFlyGo
open Go.RowKit Go.Proofs.YtidenmcoilmbcaaW.PrintWords Go.Proofs.YtidenmcoilmbcaaW.PrintLast Go.Proofs.YtidenmcoilmbcaaW.PrintMore Go.Proofs.Ytidenmcoilmbcaa.Z
attribute [local go_sem] max2_int min2_int max_two min_two max_three min_three max_four min_four zdn   -- for this text's walks alone
set_option linter.unusedVariables false
set_option linter.unusedSimpArgs false
mutual
def spec_FlyPathOk.j0 : Nat → Bool → Int → Int → List (S88) → Int → Int → Option (Bool)
 | 0, _, _, _, _, _, _ => none
 | k + 1, x27, x115000, x115001, x115002, x115003, x115004 => if x27 = true then (some false) else (spec_FlyPathOk.l0 k 0 x115000 x115001 x115002 x115003 x115004)
def spec_FlyPathOk.l0 : Nat → Int → Int → Int → List (S88) → Int → Int → Option (Bool)
 | 0, _, _, _, _, _, _ => none
 | k + 1, x3, x115000, x115001, x115002, x115003, x115004 => if x3 < (x115002.length : Int) then (if 0 ≤ x3 then ((spec_l22StepOk.f ((rd_T88 x115002 x3).f0) ((rd_T88 x115002 x3).f1) ((rd_T88 x115002 x3).f2) ((rd_T88 x115002 x3).f3) ((rd_T88 x115002 x3).f4) ((rd_T88 x115002 x3).f5) ((rd_T88 x115002 x3).f6)).bind fun t119 => (if t119 = true then (if x3 > 0 then (if 0 ≤ (wrap64 (x3 - 1)) then (if (wrap64 (x3 - 1)) < (x115002.length : Int) then ((spec_l22Next.f ((rd_T88 x115002 (wrap64 (x3 - 1))).f0) ((rd_T88 x115002 (wrap64 (x3 - 1))).f1) ((rd_T88 x115002 (wrap64 (x3 - 1))).f2) ((rd_T88 x115002 (wrap64 (x3 - 1))).f3) ((rd_T88 x115002 (wrap64 (x3 - 1))).f4) ((rd_T88 x115002 (wrap64 (x3 - 1))).f5) ((rd_T88 x115002 (wrap64 (x3 - 1))).f6) ((rd_T88 x115002 x3).f0) ((rd_T88 x115002 x3).f1) ((rd_T88 x115002 x3).f2) ((rd_T88 x115002 x3).f3) ((rd_T88 x115002 x3).f4) ((rd_T88 x115002 x3).f5) ((rd_T88 x115002 x3).f6)).bind fun t122 => (if t122 = true then (spec_FlyPathOk.l0 k (wrap64 (x3 + 1)) x115000 x115001 x115002 x115003 x115004) else (some false))) else (none)) else (none)) else (spec_FlyPathOk.l0 k (wrap64 (x3 + 1)) x115000 x115001 x115002 x115003 x115004)) else (some false))) else (none)) else (some true)
end
def spec_FlyPathOk.f (k : Nat) (a0_0 : Int) (a0_1 : Int) (l0_2 : List (S88)) (a0_3 : Int) (a0_4 : Int) : Option (Bool) := (spec_FlyKindOk.f a0_0 a0_1).bind fun t115 => (if t115 = true then ((spec_l21In.f (l0_2.length : Int) 1 40).bind fun t116 => (if t116 = true then ((spec_l21In.f a0_3 0 a0_4).bind fun t117 => (if t117 = true then (spec_FlyPathOk.j0 k (decide (a0_4 > 10000)) a0_0 a0_1 l0_2 a0_3 a0_4) else (spec_FlyPathOk.j0 k true a0_0 a0_1 l0_2 a0_3 a0_4))) else (spec_FlyPathOk.j0 k true a0_0 a0_1 l0_2 a0_3 a0_4))) else (spec_FlyPathOk.j0 k true a0_0 a0_1 l0_2 a0_3 a0_4))
def spec_FlyPathOk.T6 : Bool × List (List Nat × List Nat) := (true, [([], []), ([0], [0]), ([], []), ([1, 2], [1, 2]), ([3], [3]), ([4], [4]), ([5], [5]), ([6, 5], [6]), ([7], [7]), ([8, 7], [7, 8]), ([9, 7, 7], [7, 9]), ([10], [10]), ([11, 10], [10, 11]), ([10], [10]), ([13, 10], [10, 13]), ([12, 14, 10], [10, 12, 14]), ([15, 10], [10, 15]), ([10], [10]), ([17, 10], [10, 17]), ([10], [10]), ([18, 19, 10], [10, 18, 19]), ([20, 10], [10, 20]), ([16, 21, 10, 10], [10, 16, 21]), ([22, 10], [10, 22]), ([10, 23, 7], [7, 10, 23]), ([7, 24], [7, 24])])
def spec_FlyPathOk.B6 : List Nat := [0, 1, 0, 7, 15, 31, 63, 127, 255, 511, 1023, 2047, 4095, 2047, 10239, 32767, 65535, 2047, 133119, 2047, 919551, 1968127, 4194303, 8388607, 16777215, 33554431]
theorem spec_FlyPathOk.tab6 : rtab .any (opsOf Try.f32 6) = spec_FlyPathOk.T6 := by kernel_rfl
theorem spec_FlyPathOk.bits6 : waitsOk spec_FlyPathOk.T6.2 spec_FlyPathOk.B6 = true := by kernel_rfl
set_option maxHeartbeats 8000000 in
set_option maxRecDepth 100000 in
theorem spec_FlyPathOk.calls (k : Nat) (a0_0 : Int) (a0_1 : Int) (A0_2 : Option Addr) (c0_2 : Nat) (l0_2 : List (S88)) (a0_3 : Int) (a0_4 : Int) (r : Bool) (w : World) (hr0_2 : Kd.C k88 w A0_2 l0_2.length l0_2) (hc0_2 : l0_2.length ≤ c0_2) (h : spec_FlyPathOk.f k a0_0 a0_1 l0_2 a0_3 a0_4 = some r) :
 Calls Try.prog 32 #[.agg #[.int .i64 a0_0, .int .i64 a0_1, .slice A0_2 l0_2.length c0_2, .int .i64 a0_3, .int .i64 a0_4]] w fun e w' => e = .returned (.bool r) ∧ Below w.heap.size w w' := by
 have hu34 := Try.underlying34
 have hu31 := Try.underlying31
 have hu88 := Try.underlying88
 have HR0_2 := zA hr0_2
 have HC0_2 := zA hc0_2
 clear hr0_2 hc0_2
 have HB := zA (Below.refl w.heap.size w)
 have H : ((spec_FlyKindOk.f a0_0 a0_1).bind fun t115 => (if t115 = true then ((spec_l21In.f (l0_2.length : Int) 1 40).bind fun t116 => (if t116 = true then ((spec_l21In.f a0_3 0 a0_4).bind fun t117 => (if t117 = true then (spec_FlyPathOk.j0 k (decide (a0_4 > 10000)) a0_0 a0_1 l0_2 a0_3 a0_4) else (spec_FlyPathOk.j0 k true a0_0 a0_1 l0_2 a0_3 a0_4))) else (spec_FlyPathOk.j0 k true a0_0 a0_1 l0_2 a0_3 a0_4))) else (spec_FlyPathOk.j0 k true a0_0 a0_1 l0_2 a0_3 a0_4))) = some r := h
 clear h
 have HC2 := zA H
 clear H
 go_enter Try.func32, Try.ntmps32
 go_upto_region 1 with (first | ((with_reducible refine gate_dst (N := 1) rfl ?_); (try (refine gate_guard (by rfl) ?_; dsimp only)); refine zbx 1 #[.int .i64 a0_0, .int .i64 a0_1, .slice A0_2 l0_2.length c0_2, .int .i64 a0_3, .int .i64 a0_4] 34 ?_; intro gb114 hg w3 hbox hb; have BK114 := zA hbox; have GW114 := zgs hg (zs0 HB); have GE114 := zgs hg (zs0 HB); replace HB := zE (zs0 HB) hb; clear hb hbox hg))
 (try simp only [Act.put, List.setIfInBounds_toArray, List.set_cons_zero, List.set_cons_succ])
 go_cut [27] (fun v27 wc => ∃ (kq : Nat) (x27_1 : Bool), v27 = .bool x27_1 ∧ Aside0 (spec_FlyPathOk.j0 kq x27_1 a0_0 a0_1 l0_2 a0_3 a0_4 = some r) ∧ Aside0 (kq ≤ k) ∧ Aside0 (wc.heap[gb114]? = some (.cells #[.int .i64 a0_0, .int .i64 a0_1, (.slice A0_2 l0_2.length c0_2), .int .i64 a0_3, .int .i64 a0_4] 34 (0, 0))) ∧ Aside0 (Below w.heap.size w wc))
 case first =>
  have H := HC2.out
  clear HC2
  replace H := zbd H; obtain ⟨t115, A4, H⟩ := H
  by_cases c5 : t115 = true
  rotate_left
  ·replace c5 := Bool.eq_false_iff.mpr c5
   subst c5
   have H1 : (spec_FlyPathOk.j0 k true a0_0 a0_1 l0_2 a0_3 a0_4) = some r := by rw [if_neg (show ¬ (false = true) by decide)] at H; exact H
   clear H
   have H := H1
   clear H1
   have H' := zA H
   clear H
   obtain ⟨hcz19_0, hcz19_1, hcz19_2, hcz19_3, hcz19_4⟩ := zd5 BK114
   obtain ⟨hfz19_0, hfz19_1, hfz19_2, hfz19_3, hfz19_4⟩ := zn5 BK114
   go_wp2_with (first | ((with_reducible refine gate_callee (f := 74) rfl ?_); refine zgl (N := some 6) Try.func74 #[.agg #[.int .i64 a0_0, .int .i64 a0_1]] ?_; (with_reducible refine (spec_FlyKindOk.calls a0_0 a0_1 false _ A4.out).mono ?_); rintro e w20 ⟨rfl, hb⟩; refine ⟨_, rfl, ?_⟩; replace BK114 := zb BK114 hb; replace HB := zE (zs1 HB GE114) hb; (try clear hb); (try clear hb2); (try clear hk); (try clear hi)))
   go_meet
   case rel => exact ⟨_, (true), zi, H', ⟨by first | omega | exact Nat.le_refl _⟩, ⟨zh BK114⟩, ⟨zs1 HB GE114⟩⟩
  subst c5
  have H1 : ((spec_l21In.f (l0_2.length : Int) 1 40).bind fun t116 => (if t116 = true then ((spec_l21In.f a0_3 0 a0_4).bind fun t117 => (if t117 = true then (spec_FlyPathOk.j0 k (decide (a0_4 > 10000)) a0_0 a0_1 l0_2 a0_3 a0_4) else (spec_FlyPathOk.j0 k true a0_0 a0_1 l0_2 a0_3 a0_4))) else (spec_FlyPathOk.j0 k true a0_0 a0_1 l0_2 a0_3 a0_4))) = some r := by rw [if_pos rfl] at H; exact H
  clear H
  have H := H1
  clear H1
  replace H := zbd H; obtain ⟨t116, A6, H⟩ := H
  by_cases c7 : t116 = true
  rotate_left
  ·replace c7 := Bool.eq_false_iff.mpr c7
   subst c7
   have H1 : (spec_FlyPathOk.j0 k true a0_0 a0_1 l0_2 a0_3 a0_4) = some r := by rw [if_neg (show ¬ (false = true) by decide)] at H; exact H
   clear H
   have H := H1
   clear H1
   have H' := zA H
   clear H
   obtain ⟨hcz16_0, hcz16_1, hcz16_2, hcz16_3, hcz16_4⟩ := zd5 BK114
   obtain ⟨hfz16_0, hfz16_1, hfz16_2, hfz16_3, hfz16_4⟩ := zn5 BK114
   go_wp2_with (first | ((with_reducible refine gate_callee (f := 74) rfl ?_); refine zgl (N := some 6) Try.func74 #[.agg #[.int .i64 a0_0, .int .i64 a0_1]] ?_; (with_reducible refine (spec_FlyKindOk.calls a0_0 a0_1 true _ A4.out).mono ?_); rintro e w17 ⟨rfl, hb⟩; refine ⟨_, rfl, ?_⟩; replace BK114 := zb BK114 hb; replace HB := zE (zs1 HB GE114) hb; (try clear hb); (try clear hb2); (try clear hk); (try clear hi); obtain ⟨hcz18_0, hcz18_1, hcz18_2, hcz18_3, hcz18_4⟩ := zd5 BK114; obtain ⟨hfz18_0, hfz18_1, hfz18_2, hfz18_3, hfz18_4⟩ := zn5 BK114) | (go_at_call 70; (with_reducible refine (spec_l21In.calls (l0_2.length : Int) 1 40 false _ A6.out).mono ?_); rintro e w' ⟨rfl, ⟨nd, rfl⟩⟩))
   go_meet
   case rel => exact ⟨_, (true), zi, H', ⟨by first | omega | exact Nat.le_refl _⟩, ⟨zh BK114⟩, ⟨zs1 HB GE114⟩⟩
  subst c7
  have H1 : ((spec_l21In.f a0_3 0 a0_4).bind fun t117 => (if t117 = true then (spec_FlyPathOk.j0 k (decide (a0_4 > 10000)) a0_0 a0_1 l0_2 a0_3 a0_4) else (spec_FlyPathOk.j0 k true a0_0 a0_1 l0_2 a0_3 a0_4))) = some r := by rw [if_pos rfl] at H; exact H
  clear H
  have H := H1
  clear H1
  replace H := zbd H; obtain ⟨t117, A8, H⟩ := H
  by_cases c9 : t117 = true
  ·subst c9
   have H1 : (spec_FlyPathOk.j0 k (decide (a0_4 > 10000)) a0_0 a0_1 l0_2 a0_3 a0_4) = some r := by rw [if_pos rfl] at H; exact H
   clear H
   have H := H1
   clear H1
   have H' := zA H
   clear H
   obtain ⟨hcz10_0, hcz10_1, hcz10_2, hcz10_3, hcz10_4⟩ := zd5 BK114
   obtain ⟨hfz10_0, hfz10_1, hfz10_2, hfz10_3, hfz10_4⟩ := zn5 BK114
   go_wp2_with (first | ((with_reducible refine gate_callee (f := 74) rfl ?_); refine zgl (N := some 6) Try.func74 #[.agg #[.int .i64 a0_0, .int .i64 a0_1]] ?_; (with_reducible refine (spec_FlyKindOk.calls a0_0 a0_1 true _ A4.out).mono ?_); rintro e w11 ⟨rfl, hb⟩; refine ⟨_, rfl, ?_⟩; replace BK114 := zb BK114 hb; replace HB := zE (zs1 HB GE114) hb; (try clear hb); (try clear hb2); (try clear hk); (try clear hi); obtain ⟨hcz12_0, hcz12_1, hcz12_2, hcz12_3, hcz12_4⟩ := zd5 BK114; obtain ⟨hfz12_0, hfz12_1, hfz12_2, hfz12_3, hfz12_4⟩ := zn5 BK114) | (go_at_call 70; (with_reducible refine (spec_l21In.calls (l0_2.length : Int) 1 40 true _ A6.out).mono ?_); rintro e w' ⟨rfl, ⟨nd, rfl⟩⟩) | (go_at_call 70; (with_reducible refine (spec_l21In.calls a0_3 0 a0_4 true _ A8.out).mono ?_); rintro e w' ⟨rfl, ⟨nd, rfl⟩⟩))
   go_meet
   case rel => exact ⟨_, (decide (a0_4 > 10000)), zi, H', ⟨by first | omega | exact Nat.le_refl _⟩, ⟨zh BK114⟩, ⟨zs1 HB GE114⟩⟩
  replace c9 := Bool.eq_false_iff.mpr c9
  subst c9
  have H1 : (spec_FlyPathOk.j0 k true a0_0 a0_1 l0_2 a0_3 a0_4) = some r := by rw [if_neg (show ¬ (false = true) by decide)] at H; exact H
  clear H
  have H := H1
  clear H1
  have H' := zA H
  clear H
  obtain ⟨hcz13_0, hcz13_1, hcz13_2, hcz13_3, hcz13_4⟩ := zd5 BK114
  obtain ⟨hfz13_0, hfz13_1, hfz13_2, hfz13_3, hfz13_4⟩ := zn5 BK114
  go_wp2_with (first | ((with_reducible refine gate_callee (f := 74) rfl ?_); refine zgl (N := some 6) Try.func74 #[.agg #[.int .i64 a0_0, .int .i64 a0_1]] ?_; (with_reducible refine (spec_FlyKindOk.calls a0_0 a0_1 true _ A4.out).mono ?_); rintro e w14 ⟨rfl, hb⟩; refine ⟨_, rfl, ?_⟩; replace BK114 := zb BK114 hb; replace HB := zE (zs1 HB GE114) hb; (try clear hb); (try clear hb2); (try clear hk); (try clear hi); obtain ⟨hcz15_0, hcz15_1, hcz15_2, hcz15_3, hcz15_4⟩ := zd5 BK114; obtain ⟨hfz15_0, hfz15_1, hfz15_2, hfz15_3, hfz15_4⟩ := zn5 BK114) | (go_at_call 70; (with_reducible refine (spec_l21In.calls (l0_2.length : Int) 1 40 true _ A6.out).mono ?_); rintro e w' ⟨rfl, ⟨nd, rfl⟩⟩) | (go_at_call 70; (with_reducible refine (spec_l21In.calls a0_3 0 a0_4 false _ A8.out).mono ?_); rintro e w' ⟨rfl, ⟨nd, rfl⟩⟩))
  go_meet
  case rel => exact ⟨_, (true), zi, H', ⟨by first | omega | exact Nat.le_refl _⟩, ⟨zh BK114⟩, ⟨zs1 HB GE114⟩⟩
 case rest =>
  clear HC2
  try clear p2
  try clear c3
  try clear c5
  try clear c7
  try clear c9
  try clear hcz10_0 hcz10_1 hcz10_2 hcz10_3 hcz10_4
  try clear hcz12_0 hcz12_1 hcz12_2 hcz12_3 hcz12_4
  try clear hcz13_0 hcz13_1 hcz13_2 hcz13_3 hcz13_4
  try clear hcz15_0 hcz15_1 hcz15_2 hcz15_3 hcz15_4
  try clear hcz16_0 hcz16_1 hcz16_2 hcz16_3 hcz16_4
  try clear hcz18_0 hcz18_1 hcz18_2 hcz18_3 hcz18_4
  try clear hcz19_0 hcz19_1 hcz19_2 hcz19_3 hcz19_4
  try clear hfz10_0 hfz10_1 hfz10_2 hfz10_3 hfz10_4
  try clear hfz12_0 hfz12_1 hfz12_2 hfz12_3 hfz12_4
  try clear hfz13_0 hfz13_1 hfz13_2 hfz13_3 hfz13_4
  try clear hfz15_0 hfz15_1 hfz15_2 hfz15_3 hfz15_4
  try clear hfz16_0 hfz16_1 hfz16_2 hfz16_3 hfz16_4
  try clear hfz18_0 hfz18_1 hfz18_2 hfz18_3 hfz18_4
  try clear hfz19_0 hfz19_1 hfz19_2 hfz19_3 hfz19_4
  obtain ⟨kq, x27_1, rfl, HA, HJ1, BK114, HB⟩ := hcut
  cases kq with
  | zero => exact absurd HA.out (by simp [spec_FlyPathOk.j0])
  | succ kj1 =>
   have H := HA.out
   clear HA
   simp only [spec_FlyPathOk.j0] at H
   by_cases c21 : x27_1 = true
   ·subst c21
    have H1 : (some false) = some r := by rw [if_pos rfl] at H; exact H
    clear H
    have H := H1
    clear H1
    obtain rfl := Option.some.inj H
    go_wp2
    go_ret
    exact ⟨ze, zs1 HB GE114⟩
   replace c21 := Bool.eq_false_iff.mpr c21
   subst c21
   have H1 : (spec_FlyPathOk.l0 kj1 0 a0_0 a0_1 l0_2 a0_3 a0_4) = some r := by rw [if_neg (show ¬ (false = true) by decide)] at H; exact H
   clear H
   have H := H1
   clear H1
   have H' := zA H
   clear H
   go_wp2
   go_loopg [3] kj1 (fun kq v3 w' => ∃ (x3_2 : Int), v3 = .int .i64 x3_2 ∧ Aside0 (spec_FlyPathOk.l0 kq x3_2 a0_0 a0_1 l0_2 a0_3 a0_4 = some r) ∧ Aside0 (kq ≤ kj1) ∧ Aside0 (w'.heap[gb114]? = some (.cells #[.int .i64 a0_0, .int .i64 a0_1, (.slice A0_2 l0_2.length c0_2), .int .i64 a0_3, .int .i64 a0_4] 34 (0, 0))) ∧ Aside0 (Below w.heap.size w w'))
   case atStart => exact ⟨(0), zi, H', ⟨Nat.le_refl _⟩, ⟨zh BK114⟩, ⟨zs1 HB GE114⟩⟩
   case round =>
    clear H'
    try clear c2
    try clear p2
    try clear c3
    try clear c5
    try clear c7
    try clear c9
    try clear c21
    try clear hcz10_0 hcz10_1 hcz10_2 hcz10_3 hcz10_4
    try clear hcz12_0 hcz12_1 hcz12_2 hcz12_3 hcz12_4
    try clear hcz13_0 hcz13_1 hcz13_2 hcz13_3 hcz13_4
    try clear hcz15_0 hcz15_1 hcz15_2 hcz15_3 hcz15_4
    try clear hcz16_0 hcz16_1 hcz16_2 hcz16_3 hcz16_4
    try clear hcz18_0 hcz18_1 hcz18_2 hcz18_3 hcz18_4
    try clear hcz19_0 hcz19_1 hcz19_2 hcz19_3 hcz19_4
    try clear hfz10_0 hfz10_1 hfz10_2 hfz10_3 hfz10_4
    try clear hfz12_0 hfz12_1 hfz12_2 hfz12_3 hfz12_4
    try clear hfz13_0 hfz13_1 hfz13_2 hfz13_3 hfz13_4
    try clear hfz15_0 hfz15_1 hfz15_2 hfz15_3 hfz15_4
    try clear hfz16_0 hfz16_1 hfz16_2 hfz16_3 hfz16_4
    try clear hfz18_0 hfz18_1 hfz18_2 hfz18_3 hfz18_4
    try clear hfz19_0 hfz19_1 hfz19_2 hfz19_3 hfz19_4
    try clear p2
    obtain ⟨x3_2, rfl, HA, HK2, BK114, HB⟩ := hrel
    cases gk with
    | zero => exact absurd HA.out (by simp [spec_FlyPathOk.l0])
    | succ k2 =>
     have H := HA.out
     clear HA
     simp only [spec_FlyPathOk.l0] at H
     by_cases c22 : x3_2 < (l0_2.length : Int)
     rotate_left
     ·rw [if_neg c22] at H
      have c22b0 : decide (x3_2 < (l0_2.length : Int)) = false := decide_eq_false c22
      clear c22
      obtain rfl := Option.some.inj H
      obtain ⟨hcz46_0, hcz46_1, hcz46_2, hcz46_3, hcz46_4⟩ := zd5 BK114
      obtain ⟨hfz46_0, hfz46_1, hfz46_2, hfz46_3, hfz46_4⟩ := zn5 BK114
      go_wp2
      go_ret
      exact ⟨ze, zs1 HB GE114⟩
     rw [if_pos c22] at H
     have c22b0 : decide (x3_2 < (l0_2.length : Int)) = true := decide_eq_true c22
     clear c22
     by_cases c23 : 0 ≤ x3_2
     rotate_left
     ·rw [if_neg c23] at H
      exact absurd H (by simp)
     rw [if_pos c23] at H
     have c23b0 : decide (0 ≤ x3_2) = true := decide_eq_true c23
     clear c23
     replace H := zbd H; obtain ⟨t119, A24, H⟩ := H
     by_cases c25 : t119 = true
     rotate_left
     ·replace c25 := Bool.eq_false_iff.mpr c25
      subst c25
      have H1 : (some false) = some r := by rw [if_neg (show ¬ (false = true) by decide)] at H; exact H
      clear H
      have H := H1
      clear H1
      obtain rfl := Option.some.inj H
      obtain ⟨hcz43_0, hcz43_1, hcz43_2, hcz43_3, hcz43_4⟩ := zd5 BK114
      obtain ⟨hfz43_0, hfz43_1, hfz43_2, hfz43_3, hfz43_4⟩ := zn5 BK114
      try go_wp2
      replace BK114 := zA (blk_drew BK114.out)
      replace HB := zA (below_drew1 HB.out)
      have p118 : 0 ≤ (x3_2 : Int) := za
      have q118 : x3_2 < (l0_2.length : Int) := za
      obtain ⟨ad118, e118, hx118_0, hx118_1, hx118_2, hx118_3, hx118_4, hx118_5, hx118_6⟩ := at_T88 HR0_2.out x3_2 p118 q118
      have hw118_6 := hx118_6
      have hw118_5 := hx118_5
      have hw118_4 := hx118_4
      have hw118_3 := hx118_3
      have hw118_2 := hx118_2
      have hw118_1 := hx118_1
      have hw118_0 := hx118_0
      cases e118
      replace hx118_0 := zx HB hx118_0
      replace hx118_1 := zx HB hx118_1
      replace hx118_2 := zx HB hx118_2
      replace hx118_3 := zx HB hx118_3
      replace hx118_4 := zx HB hx118_4
      replace hx118_5 := zx HB hx118_5
      replace hx118_6 := zx HB hx118_6
      replace p118 := eq_true p118
      replace q118 := eq_true q118
      refine start_ (n := 26) (S := fun w' => w'.cell? ⟨gb114, 0, none⟩ = some (.int .i64 a0_0) ∧ w'.cell? ⟨gb114, 1, none⟩ = some (.int .i64 a0_1) ∧ w'.cell? ⟨gb114, 2, none⟩ = some (.slice (some ad118) l0_2.length c0_2) ∧ w'.cell? ⟨gb114, 3, none⟩ = some (.int .i64 a0_3) ∧ w'.cell? ⟨gb114, 4, none⟩ = some (.int .i64 a0_4) ∧ w'.cell? (ad118.add ((x3_2).toNat * 7)) = some (.int .i64 ((rd_T88 l0_2 x3_2).f0)) ∧ w'.cell? ⟨(ad118.add ((x3_2).toNat * 7)).block, (ad118.add ((x3_2).toNat * 7)).off + 1, none⟩ = some (.int .i64 ((rd_T88 l0_2 x3_2).f1)) ∧ w'.cell? ⟨(ad118.add ((x3_2).toNat * 7)).block, (ad118.add ((x3_2).toNat * 7)).off + 2, none⟩ = some (.int .i64 ((rd_T88 l0_2 x3_2).f2)) ∧ w'.cell? ⟨(ad118.add ((x3_2).toNat * 7)).block, (ad118.add ((x3_2).toNat * 7)).off + 3, none⟩ = some (.int .i64 ((rd_T88 l0_2 x3_2).f3)) ∧ w'.cell? ⟨(ad118.add ((x3_2).toNat * 7)).block, (ad118.add ((x3_2).toNat * 7)).off + 4, none⟩ = some (.int .i64 ((rd_T88 l0_2 x3_2).f4)) ∧ w'.cell? ⟨(ad118.add ((x3_2).toNat * 7)).block, (ad118.add ((x3_2).toNat * 7)).off + 5, none⟩ = some (.int .i64 ((rd_T88 l0_2 x3_2).f5)) ∧ w'.cell? ⟨(ad118.add ((x3_2).toNat * 7)).block, (ad118.add ((x3_2).toNat * 7)).off + 6, none⟩ = some (.bool ((rd_T88 l0_2 x3_2).f6))) (ds := []) #[F,F,F,F,F,F,F,F,F,F,F,F,F,F,F,F,F,F,F,F,F,F,F,F,F,F] (by kernel_rfl) rfl rfl ⟨zc0 BK114, zc1 BK114, zc2 BK114, zc3 BK114, zc4 BK114, (zw HB hw118_0), (zw HB hw118_1), (zw HB hw118_2), (zw HB hw118_3), (zw HB hw118_4), (zw HB hw118_5), (zw HB hw118_6)⟩ (fun hHeld => ?_); refine with_tabW spec_FlyPathOk.tab6 spec_FlyPathOk.bits6 (fun HT_ HW_ => ?_)
      generalize wr.drew = w44 at BK114 HB hx118_0 hx118_1 hx118_2 hx118_3 hx118_4 hx118_5 hx118_6 hHeld ⊢
      refine zq HT_ 0 ?_
      refine zq HT_ 2 ?_
      refine zk12 HT_ HW_ hHeld 1 ?_
      refine zq HT_ 3 ?_
      refine zk12 HT_ HW_ hHeld 4 ?_
      refine zo HT_ 5 (fun K hK => ?_)
      refine zgo Try.func75 #[.agg #[.int .i64 ((rd_T88 l0_2 x3_2).f0), .int .i64 ((rd_T88 l0_2 x3_2).f1), .int .i64 ((rd_T88 l0_2 x3_2).f2), .int .i64 ((rd_T88 l0_2 x3_2).f3), .int .i64 ((rd_T88 l0_2 x3_2).f4), .int .i64 ((rd_T88 l0_2 x3_2).f5), .bool ((rd_T88 l0_2 x3_2).f6)]] ?_
      with_reducible refine (spec_l22StepOk.calls ((rd_T88 l0_2 x3_2).f0) ((rd_T88 l0_2 x3_2).f1) ((rd_T88 l0_2 x3_2).f2) ((rd_T88 l0_2 x3_2).f3) ((rd_T88 l0_2 x3_2).f4) ((rd_T88 l0_2 x3_2).f5) ((rd_T88 l0_2 x3_2).f6) false _ A24.out).mono ?_
      rintro e w45 ⟨rfl, hb⟩
      refine ⟨_, rfl, ?_⟩
      replace BK114 := zb BK114 hb
      replace HB := zE (zs1 HB GE114) hb
      (try clear hb)
      (try clear hb2)
      (try clear hk)
      (try clear hi)
      refine hK.out _ _ ⟨zc0 BK114, zc1 BK114, zc2 BK114, zc3 BK114, zc4 BK114, (zw HB hw118_0), (zw HB hw118_1), (zw HB hw118_2), (zw HB hw118_3), (zw HB hw118_4), (zw HB hw118_5), (zw HB hw118_6)⟩ (fun hHeld => ?_)
      clear hK K
      refine zN ?_
      refine zq HT_ 6 ?_
      refine zq HT_ 7 ?_
      refine zu HT_ 8 ?_
      refine zu HT_ 9 ?_
      refine zu HT_ 10 ?_
      refine zu HT_ 11 ?_
      refine zu HT_ 12 ?_
      refine zu HT_ 13 ?_
      refine zu HT_ 14 ?_
      refine zu HT_ 15 ?_
      refine zu HT_ 16 ?_
      refine zu HT_ 17 ?_
      refine zu HT_ 18 ?_
      refine zu HT_ 19 ?_
      refine zu HT_ 20 ?_
      refine zu HT_ 21 ?_
      refine zu HT_ 22 ?_
      refine zu HT_ 23 ?_
      refine zu HT_ 24 ?_
      refine zq HT_ 25 ?_
      refine done_ (done_of HT_.out (by kernel_rfl)) ?_
      try go_wp2
      go_ret
      exact ⟨ze, zs1 HB GE114⟩
     subst c25
     have H1 : (if x3_2 > 0 then (if 0 ≤ (wrap64 (x3_2 - 1)) then (if (wrap64 (x3_2 - 1)) < (l0_2.length : Int) then ((spec_l22Next.f ((rd_T88 l0_2 (wrap64 (x3_2 - 1))).f0) ((rd_T88 l0_2 (wrap64 (x3_2 - 1))).f1) ((rd_T88 l0_2 (wrap64 (x3_2 - 1))).f2) ((rd_T88 l0_2 (wrap64 (x3_2 - 1))).f3) ((rd_T88 l0_2 (wrap64 (x3_2 - 1))).f4) ((rd_T88 l0_2 (wrap64 (x3_2 - 1))).f5) ((rd_T88 l0_2 (wrap64 (x3_2 - 1))).f6) ((rd_T88 l0_2 x3_2).f0) ((rd_T88 l0_2 x3_2).f1) ((rd_T88 l0_2 x3_2).f2) ((rd_T88 l0_2 x3_2).f3) ((rd_T88 l0_2 x3_2).f4) ((rd_T88 l0_2 x3_2).f5) ((rd_T88 l0_2 x3_2).f6)).bind fun t122 => (if t122 = true then (spec_FlyPathOk.l0 k2 (wrap64 (x3_2 + 1)) a0_0 a0_1 l0_2 a0_3 a0_4) else (some false))) else (none)) else (none)) else (spec_FlyPathOk.l0 k2 (wrap64 (x3_2 + 1)) a0_0 a0_1 l0_2 a0_3 a0_4)) = some r := by rw [if_pos rfl] at H; exact H
     clear H
     have H := H1
     clear H1
     by_cases c26 : x3_2 > 0
     rotate_left
     ·rw [if_neg c26] at H
      have c26b0 : decide (0 < x3_2) = false := decide_eq_false c26
      clear c26
      have H' := zA H
      clear H
      obtain ⟨hcz40_0, hcz40_1, hcz40_2, hcz40_3, hcz40_4⟩ := zd5 BK114
      obtain ⟨hfz40_0, hfz40_1, hfz40_2, hfz40_3, hfz40_4⟩ := zn5 BK114
      try go_wp2
      replace BK114 := zA (blk_drew BK114.out)
      replace HB := zA (below_drew1 HB.out)
      have p118 : 0 ≤ (x3_2 : Int) := za
      have q118 : x3_2 < (l0_2.length : Int) := za
      obtain ⟨ad118, e118, hx118_0, hx118_1, hx118_2, hx118_3, hx118_4, hx118_5, hx118_6⟩ := at_T88 HR0_2.out x3_2 p118 q118
      have hw118_6 := hx118_6
      have hw118_5 := hx118_5
      have hw118_4 := hx118_4
      have hw118_3 := hx118_3
      have hw118_2 := hx118_2
      have hw118_1 := hx118_1
      have hw118_0 := hx118_0
      cases e118
      replace hx118_0 := zx HB hx118_0
      replace hx118_1 := zx HB hx118_1
      replace hx118_2 := zx HB hx118_2
      replace hx118_3 := zx HB hx118_3
      replace hx118_4 := zx HB hx118_4
      replace hx118_5 := zx HB hx118_5
      replace hx118_6 := zx HB hx118_6
      replace p118 := eq_true p118
      replace q118 := eq_true q118
      refine start_ (n := 26) (S := fun w' => w'.cell? ⟨gb114, 0, none⟩ = some (.int .i64 a0_0) ∧ w'.cell? ⟨gb114, 1, none⟩ = some (.int .i64 a0_1) ∧ w'.cell? ⟨gb114, 2, none⟩ = some (.slice (some ad118) l0_2.length c0_2) ∧ w'.cell? ⟨gb114, 3, none⟩ = some (.int .i64 a0_3) ∧ w'.cell? ⟨gb114, 4, none⟩ = some (.int .i64 a0_4) ∧ w'.cell? (ad118.add ((x3_2).toNat * 7)) = some (.int .i64 ((rd_T88 l0_2 x3_2).f0)) ∧ w'.cell? ⟨(ad118.add ((x3_2).toNat * 7)).block, (ad118.add ((x3_2).toNat * 7)).off + 1, none⟩ = some (.int .i64 ((rd_T88 l0_2 x3_2).f1)) ∧ w'.cell? ⟨(ad118.add ((x3_2).toNat * 7)).block, (ad118.add ((x3_2).toNat * 7)).off + 2, none⟩ = some (.int .i64 ((rd_T88 l0_2 x3_2).f2)) ∧ w'.cell? ⟨(ad118.add ((x3_2).toNat * 7)).block, (ad118.add ((x3_2).toNat * 7)).off + 3, none⟩ = some (.int .i64 ((rd_T88 l0_2 x3_2).f3)) ∧ w'.cell? ⟨(ad118.add ((x3_2).toNat * 7)).block, (ad118.add ((x3_2).toNat * 7)).off + 4, none⟩ = some (.int .i64 ((rd_T88 l0_2 x3_2).f4)) ∧ w'.cell? ⟨(ad118.add ((x3_2).toNat * 7)).block, (ad118.add ((x3_2).toNat * 7)).off + 5, none⟩ = some (.int .i64 ((rd_T88 l0_2 x3_2).f5)) ∧ w'.cell? ⟨(ad118.add ((x3_2).toNat * 7)).block, (ad118.add ((x3_2).toNat * 7)).off + 6, none⟩ = some (.bool ((rd_T88 l0_2 x3_2).f6))) (ds := []) #[F,F,F,F,F,F,F,F,F,F,F,F,F,F,F,F,F,F,F,F,F,F,F,F,F,F] (by kernel_rfl) rfl rfl ⟨zc0 BK114, zc1 BK114, zc2 BK114, zc3 BK114, zc4 BK114, (zw HB hw118_0), (zw HB hw118_1), (zw HB hw118_2), (zw HB hw118_3), (zw HB hw118_4), (zw HB hw118_5), (zw HB hw118_6)⟩ (fun hHeld => ?_); refine with_tabW spec_FlyPathOk.tab6 spec_FlyPathOk.bits6 (fun HT_ HW_ => ?_)
      generalize wr.drew = w41 at BK114 HB hx118_0 hx118_1 hx118_2 hx118_3 hx118_4 hx118_5 hx118_6 hHeld ⊢
      refine zq HT_ 0 ?_
      refine zq HT_ 2 ?_
      refine zk12 HT_ HW_ hHeld 1 ?_
      refine zq HT_ 3 ?_
      refine zk12 HT_ HW_ hHeld 4 ?_
      refine zo HT_ 5 (fun K hK => ?_)
      refine zgo Try.func75 #[.agg #[.int .i64 ((rd_T88 l0_2 x3_2).f0), .int .i64 ((rd_T88 l0_2 x3_2).f1), .int .i64 ((rd_T88 l0_2 x3_2).f2), .int .i64 ((rd_T88 l0_2 x3_2).f3), .int .i64 ((rd_T88 l0_2 x3_2).f4), .int .i64 ((rd_T88 l0_2 x3_2).f5), .bool ((rd_T88 l0_2 x3_2).f6)]] ?_
      with_reducible refine (spec_l22StepOk.calls ((rd_T88 l0_2 x3_2).f0) ((rd_T88 l0_2 x3_2).f1) ((rd_T88 l0_2 x3_2).f2) ((rd_T88 l0_2 x3_2).f3) ((rd_T88 l0_2 x3_2).f4) ((rd_T88 l0_2 x3_2).f5) ((rd_T88 l0_2 x3_2).f6) true _ A24.out).mono ?_
      rintro e w42 ⟨rfl, hb⟩
      refine ⟨_, rfl, ?_⟩
      replace BK114 := zb BK114 hb
      replace HB := zE (zs1 HB GE114) hb
      (try clear hb)
      (try clear hb2)
      (try clear hk)
      (try clear hi)
      refine hK.out _ _ ⟨zc0 BK114, zc1 BK114, zc2 BK114, zc3 BK114, zc4 BK114, (zw HB hw118_0), (zw HB hw118_1), (zw HB hw118_2), (zw HB hw118_3), (zw HB hw118_4), (zw HB hw118_5), (zw HB hw118_6)⟩ (fun hHeld => ?_)
      clear hK K
      refine zN ?_
      refine zq HT_ 6 ?_
      refine zq HT_ 7 ?_
      refine zq HT_ 8 ?_
      refine zq HT_ 9 ?_
      refine zq HT_ 10 ?_
      refine zu HT_ 11 ?_
      refine zu HT_ 12 ?_
      refine zu HT_ 13 ?_
      refine zu HT_ 14 ?_
      refine zu HT_ 15 ?_
      refine zu HT_ 16 ?_
      refine zu HT_ 17 ?_
      refine zu HT_ 18 ?_
      refine zu HT_ 19 ?_
      refine zu HT_ 20 ?_
      refine zu HT_ 21 ?_
      refine zu HT_ 22 ?_
      refine zu HT_ 23 ?_
      refine zq HT_ 24 ?_
      refine zq HT_ 25 ?_
      refine done_ (done_of HT_.out (by kernel_rfl)) ?_
      try go_wp2
      go_roundg k2
      case measure => have := HJ1.out; have := HK2.out; omega
      case rel => exact ⟨(wrap64 (x3_2 + 1)), zi, H', ⟨by have := HJ1.out; have := HK2.out; omega⟩, ⟨zh BK114⟩, ⟨zs1 HB GE114⟩⟩
     rw [if_pos c26] at H
     have c26b0 : decide (0 < x3_2) = true := decide_eq_true c26
     clear c26
     obtain ⟨ji27, hji27⟩ : ∃ j_ : Int, (wrap64 (x3_2 - 1)) = j_ := ⟨_, rfl⟩
     first | rw [hji27] at H | simp only [hji27] at H
     (try rw [hji27] at A24)
     have hji27w : (IntKind.i64.wrap (x3_2 - 1)) = ji27 := (i64_w _).trans hji27
     by_cases c28 : 0 ≤ (ji27)
     rotate_left
     ·rw [if_neg c28] at H
      exact absurd H (by simp)
     rw [if_pos c28] at H
     have c28b0 : decide (0 ≤ (ji27)) = true := decide_eq_true c28
     clear c28
     by_cases c29 : (ji27) < (l0_2.length : Int)
     rotate_left
     ·rw [if_neg c29] at H
      exact absurd H (by simp)
     rw [if_pos c29] at H
     have c29b0 : decide ((ji27) < (l0_2.length : Int)) = true := decide_eq_true c29
     clear c29
     replace H := zbd H; obtain ⟨t122, A30, H⟩ := H
     by_cases c31 : t122 = true
     rotate_left
     ·replace c31 := Bool.eq_false_iff.mpr c31
      subst c31
      have H1 : (some false) = some r := by rw [if_neg (show ¬ (false = true) by decide)] at H; exact H
      clear H
      have H := H1
      clear H1
      obtain rfl := Option.some.inj H
      obtain ⟨hcz36_0, hcz36_1, hcz36_2, hcz36_3, hcz36_4⟩ := zd5 BK114
      obtain ⟨hfz36_0, hfz36_1, hfz36_2, hfz36_3, hfz36_4⟩ := zn5 BK114
      try go_wp2
      replace BK114 := zA (blk_drew BK114.out)
      replace HB := zA (below_drew1 HB.out)
      have p118 : 0 ≤ (x3_2 : Int) := za
      have q118 : x3_2 < (l0_2.length : Int) := za
      obtain ⟨ad118, e118, hx118_0, hx118_1, hx118_2, hx118_3, hx118_4, hx118_5, hx118_6⟩ := at_T88 HR0_2.out x3_2 p118 q118
      have hw118_6 := hx118_6
      have hw118_5 := hx118_5
      have hw118_4 := hx118_4
      have hw118_3 := hx118_3
      have hw118_2 := hx118_2
      have hw118_1 := hx118_1
      have hw118_0 := hx118_0
      cases e118
      replace hx118_0 := zx HB hx118_0
      replace hx118_1 := zx HB hx118_1
      replace hx118_2 := zx HB hx118_2
      replace hx118_3 := zx HB hx118_3
      replace hx118_4 := zx HB hx118_4
      replace hx118_5 := zx HB hx118_5
      replace hx118_6 := zx HB hx118_6
      replace p118 := eq_true p118
      replace q118 := eq_true q118
      have p120 : 0 ≤ ((ji27) : Int) := za
      have q120 : (ji27) < (l0_2.length : Int) := za
      obtain ⟨ad120, e120, hx120_0, hx120_1, hx120_2, hx120_3, hx120_4, hx120_5, hx120_6⟩ := at_T88 HR0_2.out (ji27) p120 q120
      have hw120_6 := hx120_6
      have hw120_5 := hx120_5
      have hw120_4 := hx120_4
      have hw120_3 := hx120_3
      have hw120_2 := hx120_2
      have hw120_1 := hx120_1
      have hw120_0 := hx120_0
      obtain rfl : ad118 = ad120 := (by injection e120)
      replace hx120_0 := zx HB hx120_0
      replace hx120_1 := zx HB hx120_1
      replace hx120_2 := zx HB hx120_2
      replace hx120_3 := zx HB hx120_3
      replace hx120_4 := zx HB hx120_4
      replace hx120_5 := zx HB hx120_5
      replace hx120_6 := zx HB hx120_6
      replace p120 := eq_true p120
      replace q120 := eq_true q120
      have p121 : 0 ≤ (x3_2 : Int) := za
      have q121 : x3_2 < (l0_2.length : Int) := za
      obtain ⟨ad121, e121, hx121_0, hx121_1, hx121_2, hx121_3, hx121_4, hx121_5, hx121_6⟩ := at_T88 HR0_2.out x3_2 p121 q121
      have hw121_6 := hx121_6
      have hw121_5 := hx121_5
      have hw121_4 := hx121_4
      have hw121_3 := hx121_3
      have hw121_2 := hx121_2
      have hw121_1 := hx121_1
      have hw121_0 := hx121_0
      obtain rfl : ad118 = ad121 := (by injection e121)
      replace hx121_0 := zx HB hx121_0
      replace hx121_1 := zx HB hx121_1
      replace hx121_2 := zx HB hx121_2
      replace hx121_3 := zx HB hx121_3
      replace hx121_4 := zx HB hx121_4
      replace hx121_5 := zx HB hx121_5
      replace hx121_6 := zx HB hx121_6
      replace p121 := eq_true p121
      replace q121 := eq_true q121
      refine start_ (n := 26) (S := fun w' => w'.cell? ⟨gb114, 0, none⟩ = some (.int .i64 a0_0) ∧ w'.cell? ⟨gb114, 1, none⟩ = some (.int .i64 a0_1) ∧ w'.cell? ⟨gb114, 2, none⟩ = some (.slice (some ad118) l0_2.length c0_2) ∧ w'.cell? ⟨gb114, 3, none⟩ = some (.int .i64 a0_3) ∧ w'.cell? ⟨gb114, 4, none⟩ = some (.int .i64 a0_4) ∧ w'.cell? (ad118.add ((x3_2).toNat * 7)) = some (.int .i64 ((rd_T88 l0_2 x3_2).f0)) ∧ w'.cell? ⟨(ad118.add ((x3_2).toNat * 7)).block, (ad118.add ((x3_2).toNat * 7)).off + 1, none⟩ = some (.int .i64 ((rd_T88 l0_2 x3_2).f1)) ∧ w'.cell? ⟨(ad118.add ((x3_2).toNat * 7)).block, (ad118.add ((x3_2).toNat * 7)).off + 2, none⟩ = some (.int .i64 ((rd_T88 l0_2 x3_2).f2)) ∧ w'.cell? ⟨(ad118.add ((x3_2).toNat * 7)).block, (ad118.add ((x3_2).toNat * 7)).off + 3, none⟩ = some (.int .i64 ((rd_T88 l0_2 x3_2).f3)) ∧ w'.cell? ⟨(ad118.add ((x3_2).toNat * 7)).block, (ad118.add ((x3_2).toNat * 7)).off + 4, none⟩ = some (.int .i64 ((rd_T88 l0_2 x3_2).f4)) ∧ w'.cell? ⟨(ad118.add ((x3_2).toNat * 7)).block, (ad118.add ((x3_2).toNat * 7)).off + 5, none⟩ = some (.int .i64 ((rd_T88 l0_2 x3_2).f5)) ∧ w'.cell? ⟨(ad118.add ((x3_2).toNat * 7)).block, (ad118.add ((x3_2).toNat * 7)).off + 6, none⟩ = some (.bool ((rd_T88 l0_2 x3_2).f6)) ∧ w'.cell? (ad118.add (((ji27)).toNat * 7)) = some (.int .i64 ((rd_T88 l0_2 (ji27)).f0)) ∧ w'.cell? ⟨(ad118.add (((ji27)).toNat * 7)).block, (ad118.add (((ji27)).toNat * 7)).off + 1, none⟩ = some (.int .i64 ((rd_T88 l0_2 (ji27)).f1)) ∧ w'.cell? ⟨(ad118.add (((ji27)).toNat * 7)).block, (ad118.add (((ji27)).toNat * 7)).off + 2, none⟩ = some (.int .i64 ((rd_T88 l0_2 (ji27)).f2)) ∧ w'.cell? ⟨(ad118.add (((ji27)).toNat * 7)).block, (ad118.add (((ji27)).toNat * 7)).off + 3, none⟩ = some (.int .i64 ((rd_T88 l0_2 (ji27)).f3)) ∧ w'.cell? ⟨(ad118.add (((ji27)).toNat * 7)).block, (ad118.add (((ji27)).toNat * 7)).off + 4, none⟩ = some (.int .i64 ((rd_T88 l0_2 (ji27)).f4)) ∧ w'.cell? ⟨(ad118.add (((ji27)).toNat * 7)).block, (ad118.add (((ji27)).toNat * 7)).off + 5, none⟩ = some (.int .i64 ((rd_T88 l0_2 (ji27)).f5)) ∧ w'.cell? ⟨(ad118.add (((ji27)).toNat * 7)).block, (ad118.add (((ji27)).toNat * 7)).off + 6, none⟩ = some (.bool ((rd_T88 l0_2 (ji27)).f6)) ∧ w'.cell? (ad118.add ((x3_2).toNat * 7)) = some (.int .i64 ((rd_T88 l0_2 x3_2).f0)) ∧ w'.cell? ⟨(ad118.add ((x3_2).toNat * 7)).block, (ad118.add ((x3_2).toNat * 7)).off + 1, none⟩ = some (.int .i64 ((rd_T88 l0_2 x3_2).f1)) ∧ w'.cell? ⟨(ad118.add ((x3_2).toNat * 7)).block, (ad118.add ((x3_2).toNat * 7)).off + 2, none⟩ = some (.int .i64 ((rd_T88 l0_2 x3_2).f2)) ∧ w'.cell? ⟨(ad118.add ((x3_2).toNat * 7)).block, (ad118.add ((x3_2).toNat * 7)).off + 3, none⟩ = some (.int .i64 ((rd_T88 l0_2 x3_2).f3)) ∧ w'.cell? ⟨(ad118.add ((x3_2).toNat * 7)).block, (ad118.add ((x3_2).toNat * 7)).off + 4, none⟩ = some (.int .i64 ((rd_T88 l0_2 x3_2).f4)) ∧ w'.cell? ⟨(ad118.add ((x3_2).toNat * 7)).block, (ad118.add ((x3_2).toNat * 7)).off + 5, none⟩ = some (.int .i64 ((rd_T88 l0_2 x3_2).f5)) ∧ w'.cell? ⟨(ad118.add ((x3_2).toNat * 7)).block, (ad118.add ((x3_2).toNat * 7)).off + 6, none⟩ = some (.bool ((rd_T88 l0_2 x3_2).f6))) (ds := []) #[F,F,F,F,F,F,F,F,F,F,F,F,F,F,F,F,F,F,F,F,F,F,F,F,F,F] (by kernel_rfl) rfl rfl ⟨zc0 BK114, zc1 BK114, zc2 BK114, zc3 BK114, zc4 BK114, (zw HB hw118_0), (zw HB hw118_1), (zw HB hw118_2), (zw HB hw118_3), (zw HB hw118_4), (zw HB hw118_5), (zw HB hw118_6), (zw HB hw120_0), (zw HB hw120_1), (zw HB hw120_2), (zw HB hw120_3), (zw HB hw120_4), (zw HB hw120_5), (zw HB hw120_6), (zw HB hw121_0), (zw HB hw121_1), (zw HB hw121_2), (zw HB hw121_3), (zw HB hw121_4), (zw HB hw121_5), (zw HB hw121_6)⟩ (fun hHeld => ?_); refine with_tabW spec_FlyPathOk.tab6 spec_FlyPathOk.bits6 (fun HT_ HW_ => ?_)
      generalize wr.drew = w37 at BK114 HB hx118_0 hx118_1 hx118_2 hx118_3 hx118_4 hx118_5 hx118_6 hx120_0 hx120_1 hx120_2 hx120_3 hx120_4 hx120_5 hx120_6 hx121_0 hx121_1 hx121_2 hx121_3 hx121_4 hx121_5 hx121_6 hHeld ⊢
      refine zq HT_ 0 ?_
      refine zq HT_ 2 ?_
      refine zk26 HT_ HW_ hHeld 1 ?_
      refine zq HT_ 3 ?_
      refine zk26 HT_ HW_ hHeld 4 ?_
      refine zo HT_ 5 (fun K hK => ?_)
      refine zgo Try.func75 #[.agg #[.int .i64 ((rd_T88 l0_2 x3_2).f0), .int .i64 ((rd_T88 l0_2 x3_2).f1), .int .i64 ((rd_T88 l0_2 x3_2).f2), .int .i64 ((rd_T88 l0_2 x3_2).f3), .int .i64 ((rd_T88 l0_2 x3_2).f4), .int .i64 ((rd_T88 l0_2 x3_2).f5), .bool ((rd_T88 l0_2 x3_2).f6)]] ?_
      with_reducible refine (spec_l22StepOk.calls ((rd_T88 l0_2 x3_2).f0) ((rd_T88 l0_2 x3_2).f1) ((rd_T88 l0_2 x3_2).f2) ((rd_T88 l0_2 x3_2).f3) ((rd_T88 l0_2 x3_2).f4) ((rd_T88 l0_2 x3_2).f5) ((rd_T88 l0_2 x3_2).f6) true _ A24.out).mono ?_
      rintro e w38 ⟨rfl, hb⟩
      refine ⟨_, rfl, ?_⟩
      replace BK114 := zb BK114 hb
      replace HB := zE (zs1 HB GE114) hb
      (try clear hb)
      (try clear hb2)
      (try clear hk)
      (try clear hi)
      refine hK.out _ _ ⟨zc0 BK114, zc1 BK114, zc2 BK114, zc3 BK114, zc4 BK114, (zw HB hw118_0), (zw HB hw118_1), (zw HB hw118_2), (zw HB hw118_3), (zw HB hw118_4), (zw HB hw118_5), (zw HB hw118_6), (zw HB hw120_0), (zw HB hw120_1), (zw HB hw120_2), (zw HB hw120_3), (zw HB hw120_4), (zw HB hw120_5), (zw HB hw120_6), (zw HB hw121_0), (zw HB hw121_1), (zw HB hw121_2), (zw HB hw121_3), (zw HB hw121_4), (zw HB hw121_5), (zw HB hw121_6)⟩ (fun hHeld => ?_)
      clear hK K
      refine zN ?_
      refine zq HT_ 6 ?_
      refine zq HT_ 7 ?_
      refine zq HT_ 8 ?_
      refine zq HT_ 9 ?_
      refine zq HT_ 10 ?_
      refine zq HT_ 11 ?_
      refine zq HT_ 13 ?_
      refine zq HT_ 14 ?_
      refine zq HT_ 17 ?_
      refine zq HT_ 19 ?_
      refine zk26 HT_ HW_ hHeld 12 ?_
      refine zq HT_ 15 ?_
      refine zk26 HT_ HW_ hHeld 16 ?_
      refine zk26 HT_ HW_ hHeld 18 ?_
      refine zq HT_ 20 ?_
      refine zk26 HT_ HW_ hHeld 21 ?_
      refine zo HT_ 22 (fun K hK => ?_)
      refine goes_ Try.func76 (by kernel_rfl) rfl #[.agg #[.int .i64 ((rd_T88 l0_2 (ji27)).f0), .int .i64 ((rd_T88 l0_2 (ji27)).f1), .int .i64 ((rd_T88 l0_2 (ji27)).f2), .int .i64 ((rd_T88 l0_2 (ji27)).f3), .int .i64 ((rd_T88 l0_2 (ji27)).f4), .int .i64 ((rd_T88 l0_2 (ji27)).f5), .bool ((rd_T88 l0_2 (ji27)).f6)], .agg #[.int .i64 ((rd_T88 l0_2 x3_2).f0), .int .i64 ((rd_T88 l0_2 x3_2).f1), .int .i64 ((rd_T88 l0_2 x3_2).f2), .int .i64 ((rd_T88 l0_2 x3_2).f3), .int .i64 ((rd_T88 l0_2 x3_2).f4), .int .i64 ((rd_T88 l0_2 x3_2).f5), .bool ((rd_T88 l0_2 x3_2).f6)]] (by rfl) rfl rfl (by (try simp only [List.map_toArray, List.map_cons, List.map_nil]); first | done | (simp only [hji27]; rfl) | rfl | (simp only [List.length_drop, List.length_take]; rfl)) ?_
      with_reducible refine (spec_l22Next.calls ((rd_T88 l0_2 (ji27)).f0) ((rd_T88 l0_2 (ji27)).f1) ((rd_T88 l0_2 (ji27)).f2) ((rd_T88 l0_2 (ji27)).f3) ((rd_T88 l0_2 (ji27)).f4) ((rd_T88 l0_2 (ji27)).f5) ((rd_T88 l0_2 (ji27)).f6) ((rd_T88 l0_2 x3_2).f0) ((rd_T88 l0_2 x3_2).f1) ((rd_T88 l0_2 x3_2).f2) ((rd_T88 l0_2 x3_2).f3) ((rd_T88 l0_2 x3_2).f4) ((rd_T88 l0_2 x3_2).f5) ((rd_T88 l0_2 x3_2).f6) false _ A30.out).mono ?_
      rintro e w39 ⟨rfl, hb⟩
      refine ⟨_, rfl, ?_⟩
      replace BK114 := zb BK114 hb
      replace HB := zE (zs1 HB GE114) hb
      (try clear hb)
      (try clear hb2)
      (try clear hk)
      (try clear hi)
      refine hK.out _ _ ⟨zc0 BK114, zc1 BK114, zc2 BK114, zc3 BK114, zc4 BK114, (zw HB hw118_0), (zw HB hw118_1), (zw HB hw118_2), (zw HB hw118_3), (zw HB hw118_4), (zw HB hw118_5), (zw HB hw118_6), (zw HB hw120_0), (zw HB hw120_1), (zw HB hw120_2), (zw HB hw120_3), (zw HB hw120_4), (zw HB hw120_5), (zw HB hw120_6), (zw HB hw121_0), (zw HB hw121_1), (zw HB hw121_2), (zw HB hw121_3), (zw HB hw121_4), (zw HB hw121_5), (zw HB hw121_6)⟩ (fun hHeld => ?_)
      clear hK K
      refine zN ?_
      refine zq HT_ 23 ?_
      refine zq HT_ 24 ?_
      refine zq HT_ 25 ?_
      refine done_ (done_of HT_.out (by kernel_rfl)) ?_
      try go_wp2
      go_ret
      exact ⟨by first | rfl | (simp [errW_none, errW_some] <;> rfl) | (simp only [← hji27]; first | rfl | (simp [errW_none, errW_some] <;> rfl)) | (simp [*, errW_none, errW_some] <;> rfl), zs1 HB GE114⟩
     subst c31
     have H1 : (spec_FlyPathOk.l0 k2 (wrap64 (x3_2 + 1)) a0_0 a0_1 l0_2 a0_3 a0_4) = some r := by rw [if_pos rfl] at H; exact H
     clear H
     have H := H1
     clear H1
     have H' := zA H
     clear H
     obtain ⟨hcz32_0, hcz32_1, hcz32_2, hcz32_3, hcz32_4⟩ := zd5 BK114
     obtain ⟨hfz32_0, hfz32_1, hfz32_2, hfz32_3, hfz32_4⟩ := zn5 BK114
     try go_wp2
     replace BK114 := zA (blk_drew BK114.out)
     replace HB := zA (below_drew1 HB.out)
     have p118 : 0 ≤ (x3_2 : Int) := za
     have q118 : x3_2 < (l0_2.length : Int) := za
     obtain ⟨ad118, e118, hx118_0, hx118_1, hx118_2, hx118_3, hx118_4, hx118_5, hx118_6⟩ := at_T88 HR0_2.out x3_2 p118 q118
     have hw118_6 := hx118_6
     have hw118_5 := hx118_5
     have hw118_4 := hx118_4
     have hw118_3 := hx118_3
     have hw118_2 := hx118_2
     have hw118_1 := hx118_1
     have hw118_0 := hx118_0
     cases e118
     replace hx118_0 := zx HB hx118_0
     replace hx118_1 := zx HB hx118_1
     replace hx118_2 := zx HB hx118_2
     replace hx118_3 := zx HB hx118_3
     replace hx118_4 := zx HB hx118_4
     replace hx118_5 := zx HB hx118_5
     replace hx118_6 := zx HB hx118_6
     replace p118 := eq_true p118
     replace q118 := eq_true q118
     have p120 : 0 ≤ ((ji27) : Int) := za
     have q120 : (ji27) < (l0_2.length : Int) := za
     obtain ⟨ad120, e120, hx120_0, hx120_1, hx120_2, hx120_3, hx120_4, hx120_5, hx120_6⟩ := at_T88 HR0_2.out (ji27) p120 q120
     have hw120_6 := hx120_6
     have hw120_5 := hx120_5
     have hw120_4 := hx120_4
     have hw120_3 := hx120_3
     have hw120_2 := hx120_2
     have hw120_1 := hx120_1
     have hw120_0 := hx120_0
     obtain rfl : ad118 = ad120 := (by injection e120)
     replace hx120_0 := zx HB hx120_0
     replace hx120_1 := zx HB hx120_1
     replace hx120_2 := zx HB hx120_2
     replace hx120_3 := zx HB hx120_3
     replace hx120_4 := zx HB hx120_4
     replace hx120_5 := zx HB hx120_5
     replace hx120_6 := zx HB hx120_6
     replace p120 := eq_true p120
     replace q120 := eq_true q120
     have p121 : 0 ≤ (x3_2 : Int) := za
     have q121 : x3_2 < (l0_2.length : Int) := za
     obtain ⟨ad121, e121, hx121_0, hx121_1, hx121_2, hx121_3, hx121_4, hx121_5, hx121_6⟩ := at_T88 HR0_2.out x3_2 p121 q121
     have hw121_6 := hx121_6
     have hw121_5 := hx121_5
     have hw121_4 := hx121_4
     have hw121_3 := hx121_3
     have hw121_2 := hx121_2
     have hw121_1 := hx121_1
     have hw121_0 := hx121_0
     obtain rfl : ad118 = ad121 := (by injection e121)
     replace hx121_0 := zx HB hx121_0
     replace hx121_1 := zx HB hx121_1
     replace hx121_2 := zx HB hx121_2
     replace hx121_3 := zx HB hx121_3
     replace hx121_4 := zx HB hx121_4
     replace hx121_5 := zx HB hx121_5
     replace hx121_6 := zx HB hx121_6
     replace p121 := eq_true p121
     replace q121 := eq_true q121
     refine start_ (n := 26) (S := fun w' => w'.cell? ⟨gb114, 0, none⟩ = some (.int .i64 a0_0) ∧ w'.cell? ⟨gb114, 1, none⟩ = some (.int .i64 a0_1) ∧ w'.cell? ⟨gb114, 2, none⟩ = some (.slice (some ad118) l0_2.length c0_2) ∧ w'.cell? ⟨gb114, 3, none⟩ = some (.int .i64 a0_3) ∧ w'.cell? ⟨gb114, 4, none⟩ = some (.int .i64 a0_4) ∧ w'.cell? (ad118.add ((x3_2).toNat * 7)) = some (.int .i64 ((rd_T88 l0_2 x3_2).f0)) ∧ w'.cell? ⟨(ad118.add ((x3_2).toNat * 7)).block, (ad118.add ((x3_2).toNat * 7)).off + 1, none⟩ = some (.int .i64 ((rd_T88 l0_2 x3_2).f1)) ∧ w'.cell? ⟨(ad118.add ((x3_2).toNat * 7)).block, (ad118.add ((x3_2).toNat * 7)).off + 2, none⟩ = some (.int .i64 ((rd_T88 l0_2 x3_2).f2)) ∧ w'.cell? ⟨(ad118.add ((x3_2).toNat * 7)).block, (ad118.add ((x3_2).toNat * 7)).off + 3, none⟩ = some (.int .i64 ((rd_T88 l0_2 x3_2).f3)) ∧ w'.cell? ⟨(ad118.add ((x3_2).toNat * 7)).block, (ad118.add ((x3_2).toNat * 7)).off + 4, none⟩ = some (.int .i64 ((rd_T88 l0_2 x3_2).f4)) ∧ w'.cell? ⟨(ad118.add ((x3_2).toNat * 7)).block, (ad118.add ((x3_2).toNat * 7)).off + 5, none⟩ = some (.int .i64 ((rd_T88 l0_2 x3_2).f5)) ∧ w'.cell? ⟨(ad118.add ((x3_2).toNat * 7)).block, (ad118.add ((x3_2).toNat * 7)).off + 6, none⟩ = some (.bool ((rd_T88 l0_2 x3_2).f6)) ∧ w'.cell? (ad118.add (((ji27)).toNat * 7)) = some (.int .i64 ((rd_T88 l0_2 (ji27)).f0)) ∧ w'.cell? ⟨(ad118.add (((ji27)).toNat * 7)).block, (ad118.add (((ji27)).toNat * 7)).off + 1, none⟩ = some (.int .i64 ((rd_T88 l0_2 (ji27)).f1)) ∧ w'.cell? ⟨(ad118.add (((ji27)).toNat * 7)).block, (ad118.add (((ji27)).toNat * 7)).off + 2, none⟩ = some (.int .i64 ((rd_T88 l0_2 (ji27)).f2)) ∧ w'.cell? ⟨(ad118.add (((ji27)).toNat * 7)).block, (ad118.add (((ji27)).toNat * 7)).off + 3, none⟩ = some (.int .i64 ((rd_T88 l0_2 (ji27)).f3)) ∧ w'.cell? ⟨(ad118.add (((ji27)).toNat * 7)).block, (ad118.add (((ji27)).toNat * 7)).off + 4, none⟩ = some (.int .i64 ((rd_T88 l0_2 (ji27)).f4)) ∧ w'.cell? ⟨(ad118.add (((ji27)).toNat * 7)).block, (ad118.add (((ji27)).toNat * 7)).off + 5, none⟩ = some (.int .i64 ((rd_T88 l0_2 (ji27)).f5)) ∧ w'.cell? ⟨(ad118.add (((ji27)).toNat * 7)).block, (ad118.add (((ji27)).toNat * 7)).off + 6, none⟩ = some (.bool ((rd_T88 l0_2 (ji27)).f6)) ∧ w'.cell? (ad118.add ((x3_2).toNat * 7)) = some (.int .i64 ((rd_T88 l0_2 x3_2).f0)) ∧ w'.cell? ⟨(ad118.add ((x3_2).toNat * 7)).block, (ad118.add ((x3_2).toNat * 7)).off + 1, none⟩ = some (.int .i64 ((rd_T88 l0_2 x3_2).f1)) ∧ w'.cell? ⟨(ad118.add ((x3_2).toNat * 7)).block, (ad118.add ((x3_2).toNat * 7)).off + 2, none⟩ = some (.int .i64 ((rd_T88 l0_2 x3_2).f2)) ∧ w'.cell? ⟨(ad118.add ((x3_2).toNat * 7)).block, (ad118.add ((x3_2).toNat * 7)).off + 3, none⟩ = some (.int .i64 ((rd_T88 l0_2 x3_2).f3)) ∧ w'.cell? ⟨(ad118.add ((x3_2).toNat * 7)).block, (ad118.add ((x3_2).toNat * 7)).off + 4, none⟩ = some (.int .i64 ((rd_T88 l0_2 x3_2).f4)) ∧ w'.cell? ⟨(ad118.add ((x3_2).toNat * 7)).block, (ad118.add ((x3_2).toNat * 7)).off + 5, none⟩ = some (.int .i64 ((rd_T88 l0_2 x3_2).f5)) ∧ w'.cell? ⟨(ad118.add ((x3_2).toNat * 7)).block, (ad118.add ((x3_2).toNat * 7)).off + 6, none⟩ = some (.bool ((rd_T88 l0_2 x3_2).f6))) (ds := []) #[F,F,F,F,F,F,F,F,F,F,F,F,F,F,F,F,F,F,F,F,F,F,F,F,F,F] (by kernel_rfl) rfl rfl ⟨zc0 BK114, zc1 BK114, zc2 BK114, zc3 BK114, zc4 BK114, (zw HB hw118_0), (zw HB hw118_1), (zw HB hw118_2), (zw HB hw118_3), (zw HB hw118_4), (zw HB hw118_5), (zw HB hw118_6), (zw HB hw120_0), (zw HB hw120_1), (zw HB hw120_2), (zw HB hw120_3), (zw HB hw120_4), (zw HB hw120_5), (zw HB hw120_6), (zw HB hw121_0), (zw HB hw121_1), (zw HB hw121_2), (zw HB hw121_3), (zw HB hw121_4), (zw HB hw121_5), (zw HB hw121_6)⟩ (fun hHeld => ?_); refine with_tabW spec_FlyPathOk.tab6 spec_FlyPathOk.bits6 (fun HT_ HW_ => ?_)
     generalize wr.drew = w33 at BK114 HB hx118_0 hx118_1 hx118_2 hx118_3 hx118_4 hx118_5 hx118_6 hx120_0 hx120_1 hx120_2 hx120_3 hx120_4 hx120_5 hx120_6 hx121_0 hx121_1 hx121_2 hx121_3 hx121_4 hx121_5 hx121_6 hHeld ⊢
     refine zq HT_ 0 ?_
     refine zq HT_ 2 ?_
     refine zk26 HT_ HW_ hHeld 1 ?_
     refine zq HT_ 3 ?_
     refine zk26 HT_ HW_ hHeld 4 ?_
     refine zo HT_ 5 (fun K hK => ?_)
     refine zgo Try.func75 #[.agg #[.int .i64 ((rd_T88 l0_2 x3_2).f0), .int .i64 ((rd_T88 l0_2 x3_2).f1), .int .i64 ((rd_T88 l0_2 x3_2).f2), .int .i64 ((rd_T88 l0_2 x3_2).f3), .int .i64 ((rd_T88 l0_2 x3_2).f4), .int .i64 ((rd_T88 l0_2 x3_2).f5), .bool ((rd_T88 l0_2 x3_2).f6)]] ?_
     with_reducible refine (spec_l22StepOk.calls ((rd_T88 l0_2 x3_2).f0) ((rd_T88 l0_2 x3_2).f1) ((rd_T88 l0_2 x3_2).f2) ((rd_T88 l0_2 x3_2).f3) ((rd_T88 l0_2 x3_2).f4) ((rd_T88 l0_2 x3_2).f5) ((rd_T88 l0_2 x3_2).f6) true _ A24.out).mono ?_
     rintro e w34 ⟨rfl, hb⟩
     refine ⟨_, rfl, ?_⟩
     replace BK114 := zb BK114 hb
     replace HB := zE (zs1 HB GE114) hb
     (try clear hb)
     (try clear hb2)
     (try clear hk)
     (try clear hi)
     refine hK.out _ _ ⟨zc0 BK114, zc1 BK114, zc2 BK114, zc3 BK114, zc4 BK114, (zw HB hw118_0), (zw HB hw118_1), (zw HB hw118_2), (zw HB hw118_3), (zw HB hw118_4), (zw HB hw118_5), (zw HB hw118_6), (zw HB hw120_0), (zw HB hw120_1), (zw HB hw120_2), (zw HB hw120_3), (zw HB hw120_4), (zw HB hw120_5), (zw HB hw120_6), (zw HB hw121_0), (zw HB hw121_1), (zw HB hw121_2), (zw HB hw121_3), (zw HB hw121_4), (zw HB hw121_5), (zw HB hw121_6)⟩ (fun hHeld => ?_)
     clear hK K
     refine zN ?_
     refine zq HT_ 6 ?_
     refine zq HT_ 7 ?_
     refine zq HT_ 8 ?_
     refine zq HT_ 9 ?_
     refine zq HT_ 10 ?_
     refine zq HT_ 11 ?_
     refine zq HT_ 13 ?_
     refine zq HT_ 14 ?_
     refine zq HT_ 17 ?_
     refine zq HT_ 19 ?_
     refine zk26 HT_ HW_ hHeld 12 ?_
     refine zq HT_ 15 ?_
     refine zk26 HT_ HW_ hHeld 16 ?_
     refine zk26 HT_ HW_ hHeld 18 ?_
     refine zq HT_ 20 ?_
     refine zk26 HT_ HW_ hHeld 21 ?_
     refine zo HT_ 22 (fun K hK => ?_)
     refine goes_ Try.func76 (by kernel_rfl) rfl #[.agg #[.int .i64 ((rd_T88 l0_2 (ji27)).f0), .int .i64 ((rd_T88 l0_2 (ji27)).f1), .int .i64 ((rd_T88 l0_2 (ji27)).f2), .int .i64 ((rd_T88 l0_2 (ji27)).f3), .int .i64 ((rd_T88 l0_2 (ji27)).f4), .int .i64 ((rd_T88 l0_2 (ji27)).f5), .bool ((rd_T88 l0_2 (ji27)).f6)], .agg #[.int .i64 ((rd_T88 l0_2 x3_2).f0), .int .i64 ((rd_T88 l0_2 x3_2).f1), .int .i64 ((rd_T88 l0_2 x3_2).f2), .int .i64 ((rd_T88 l0_2 x3_2).f3), .int .i64 ((rd_T88 l0_2 x3_2).f4), .int .i64 ((rd_T88 l0_2 x3_2).f5), .bool ((rd_T88 l0_2 x3_2).f6)]] (by rfl) rfl rfl (by (try simp only [List.map_toArray, List.map_cons, List.map_nil]); first | done | (simp only [hji27]; rfl) | rfl | (simp only [List.length_drop, List.length_take]; rfl)) ?_
     with_reducible refine (spec_l22Next.calls ((rd_T88 l0_2 (ji27)).f0) ((rd_T88 l0_2 (ji27)).f1) ((rd_T88 l0_2 (ji27)).f2) ((rd_T88 l0_2 (ji27)).f3) ((rd_T88 l0_2 (ji27)).f4) ((rd_T88 l0_2 (ji27)).f5) ((rd_T88 l0_2 (ji27)).f6) ((rd_T88 l0_2 x3_2).f0) ((rd_T88 l0_2 x3_2).f1) ((rd_T88 l0_2 x3_2).f2) ((rd_T88 l0_2 x3_2).f3) ((rd_T88 l0_2 x3_2).f4) ((rd_T88 l0_2 x3_2).f5) ((rd_T88 l0_2 x3_2).f6) true _ A30.out).mono ?_
     rintro e w35 ⟨rfl, hb⟩
     refine ⟨_, rfl, ?_⟩
     replace BK114 := zb BK114 hb
     replace HB := zE (zs1 HB GE114) hb
     (try clear hb)
     (try clear hb2)
     (try clear hk)
     (try clear hi)
     refine hK.out _ _ ⟨zc0 BK114, zc1 BK114, zc2 BK114, zc3 BK114, zc4 BK114, (zw HB hw118_0), (zw HB hw118_1), (zw HB hw118_2), (zw HB hw118_3), (zw HB hw118_4), (zw HB hw118_5), (zw HB hw118_6), (zw HB hw120_0), (zw HB hw120_1), (zw HB hw120_2), (zw HB hw120_3), (zw HB hw120_4), (zw HB hw120_5), (zw HB hw120_6), (zw HB hw121_0), (zw HB hw121_1), (zw HB hw121_2), (zw HB hw121_3), (zw HB hw121_4), (zw HB hw121_5), (zw HB hw121_6)⟩ (fun hHeld => ?_)
     clear hK K
     refine zN ?_
     refine zq HT_ 23 ?_
     refine zq HT_ 24 ?_
     refine zq HT_ 25 ?_
     refine done_ (done_of HT_.out (by kernel_rfl)) ?_
     try go_wp2
     go_roundg k2
     case measure => have := HJ1.out; have := HK2.out; omega
     case rel => exact ⟨(wrap64 (x3_2 + 1)), zi, H', ⟨by have := HJ1.out; have := HK2.out; omega⟩, ⟨zh BK114⟩, ⟨zs1 HB GE114⟩⟩
end Go.Proofs.Ytidenmcoilmbcaa.QFnExactFlyGo
