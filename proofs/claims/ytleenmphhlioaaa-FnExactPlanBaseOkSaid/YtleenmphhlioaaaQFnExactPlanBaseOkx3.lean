/- The walk of what the law FnExactPlanBaseOk reaches: laid by a program of this session (ownprint.py). -/
import Derived.Test.YtleenmphhlioaaaQFnExactPlanBaseOkx0
import Derived.Test.YtleenmphhlioaaaQFnExactPlanBaseOkx2
namespace Go.Proofs.Ytleenmphhlioaaa.QFnExactPlanBaseOk
open Go.RowKit Go.Proofs.YtleenmphhlioaaaW.PrintWords Go.Proofs.YtleenmphhlioaaaW.PrintLast Go.Proofs.YtleenmphhlioaaaW.PrintMore Go.Proofs.Ytleenmphhlioaaa.Z
attribute [local go_sem] max2_int min2_int max_two min_two max_three min_three max_four min_four zdn   -- for this text's walks alone
set_option linter.unusedVariables false
set_option linter.unusedSimpArgs false
mutual
def spec_PlanBaseOk.j0 : Nat → Bool → List (S39) → List (S42) → Option (Bool)
 | 0, _, _, _ => none
 | k + 1, x15, x119000, x119001 => if x15 = true then (some false) else (spec_PlanBaseOk.l0 k 0 x119000 x119001)
def spec_PlanBaseOk.l0 : Nat → Int → List (S39) → List (S42) → Option (Bool)
 | 0, _, _, _ => none
 | k + 1, x3, x119000, x119001 => if x3 < (x119000.length : Int) then (if 0 ≤ x3 then ((spec_l11KindOk.f k ((rd_T39 x119000 x3).f0) ((rd_T39 x119000 x3).f1) ((rd_T39 x119000 x3).f2)).bind fun t120 => (if t120 = true then (if x3 > 0 then (if 0 ≤ (wrap64 (x3 - 1)) then (if (wrap64 (x3 - 1)) < (x119000.length : Int) then (if ((Op.bytesLess (((rd_T39 x119000 (wrap64 (x3 - 1))).f0).toList) (((rd_T39 x119000 x3).f0).toList)) = true) then (spec_PlanBaseOk.l0 k (wrap64 (x3 + 1)) x119000 x119001) else (some false)) else (none)) else (none)) else (spec_PlanBaseOk.l0 k (wrap64 (x3 + 1)) x119000 x119001)) else (some false))) else (none)) else (spec_PlanBaseOk.l1 k 0 x119000 x119001)
def spec_PlanBaseOk.l1 : Nat → Int → List (S39) → List (S42) → Option (Bool)
 | 0, _, _, _ => none
 | k + 1, x4, x119000, x119001 => if x4 < (x119001.length : Int) then (if 0 ≤ x4 then ((spec_l11PointOk.f k ((rd_T42 x119001 x4).f0) ((rd_T42 x119001 x4).f1) ((rd_T42 x119001 x4).f2)).bind fun t124 => (if t124 = true then (if x4 > 0 then (if 0 ≤ (wrap64 (x4 - 1)) then (if (wrap64 (x4 - 1)) < (x119001.length : Int) then (spec_PlanBaseOk.j3 k x4 (!(Op.bytesLess (((rd_T42 x119001 (wrap64 (x4 - 1))).f0).toList) (((rd_T42 x119001 x4).f0).toList))) x119000 x119001) else (none)) else (none)) else (spec_PlanBaseOk.j3 k x4 false x119000 x119001)) else (spec_PlanBaseOk.j3 k x4 true x119000 x119001))) else (none)) else (some true)
def spec_PlanBaseOk.j3 : Nat → Int → Bool → List (S39) → List (S42) → Option (Bool)
 | 0, _, _, _, _ => none
 | k + 1, x4, x83, x119000, x119001 => if x83 = true then (some false) else (spec_PlanBaseOk.l2 k x4 0 x119000 x119001)
def spec_PlanBaseOk.l2 : Nat → Int → Int → List (S39) → List (S42) → Option (Bool)
 | 0, _, _, _, _ => none
 | k + 1, x4, x5, x119000, x119001 => if x5 < x4 then (if 0 ≤ x5 then (if x5 < (x119001.length : Int) then (if 0 ≤ x4 then (if x4 < (x119001.length : Int) then (if ((rd_T42 x119001 x5).f1) = ((rd_T42 x119001 x4).f1) then (if ((rd_T42 x119001 x5).f2) = ((rd_T42 x119001 x4).f2) then (some false) else (spec_PlanBaseOk.l2 k x4 (wrap64 (x5 + 1)) x119000 x119001)) else (spec_PlanBaseOk.l2 k x4 (wrap64 (x5 + 1)) x119000 x119001)) else (none)) else (none)) else (none)) else (none)) else (spec_PlanBaseOk.l1 k (wrap64 (x4 + 1)) x119000 x119001)
end
def spec_PlanBaseOk.f (k : Nat) (l0_0 : List (S39)) (l0_1 : List (S42)) : Option (Bool) := if (l0_0.length : Int) > 6 then (spec_PlanBaseOk.j0 k true l0_0 l0_1) else (spec_PlanBaseOk.j0 k (decide ((l0_1.length : Int) > 16)) l0_0 l0_1)
def spec_PlanBaseOk.T6 : Bool × List (List Nat × List Nat) := (true, [([], []), ([0], [0]), ([], []), ([1, 2], [1, 2]), ([3], [3]), ([4], [4]), ([5], [5]), ([6, 5], [6]), ([7], [7]), ([8, 7], [7, 8]), ([9, 7, 7], [7, 9]), ([10], [10]), ([11, 10], [10, 11]), ([10], [10]), ([13, 10], [10, 13]), ([12, 14, 10], [10, 12, 14]), ([15, 10], [10, 15]), ([16, 10], [10, 16]), ([10], [10]), ([18, 10], [10, 18]), ([10], [10]), ([19, 20, 10], [10, 19, 20]), ([21, 10], [10, 21]), ([22, 10], [10, 22]), ([17, 23, 10], [10, 17, 23]), ([10, 24, 7], [7, 10, 24]), ([7, 25], [7, 25])])
def spec_PlanBaseOk.B6 : List Nat := [0, 1, 0, 7, 15, 31, 63, 127, 255, 511, 1023, 2047, 4095, 2047, 10239, 32767, 65535, 131071, 2047, 264191, 2047, 1837055, 3934207, 8128511, 16777215, 33554431, 67108863]
theorem spec_PlanBaseOk.tab6 : rtab .any (opsOf Try.f5 6) = spec_PlanBaseOk.T6 := by kernel_rfl
theorem spec_PlanBaseOk.bits6 : waitsOk spec_PlanBaseOk.T6.2 spec_PlanBaseOk.B6 = true := by kernel_rfl
def spec_PlanBaseOk.T11 : Bool × List (List Nat × List Nat) := (true, [([], []), ([0], [0]), ([], []), ([1, 2], [1, 2]), ([3], [3]), ([4], [4]), ([5], [5]), ([6, 5], [6]), ([7], [7]), ([8, 7], [7, 8]), ([9, 7, 7], [7, 9]), ([10], [10]), ([11, 10], [10, 11]), ([10], [10]), ([13, 10], [10, 13]), ([12, 14, 10], [10, 12, 14]), ([15, 10], [10, 15]), ([16, 10], [10, 16]), ([10], [10]), ([18, 10], [10, 18]), ([10], [10]), ([19, 20, 10], [10, 19, 20]), ([21, 10], [10, 21]), ([22, 10], [10, 22]), ([17, 23, 10], [10, 17, 23]), ([10, 24, 7], [7, 10, 24]), ([7, 25], [7, 25])])
def spec_PlanBaseOk.B11 : List Nat := [0, 1, 0, 7, 15, 31, 63, 127, 255, 511, 1023, 2047, 4095, 2047, 10239, 32767, 65535, 131071, 2047, 264191, 2047, 1837055, 3934207, 8128511, 16777215, 33554431, 67108863]
theorem spec_PlanBaseOk.tab11 : rtab .any (opsOf Try.f5 11) = spec_PlanBaseOk.T11 := by kernel_rfl
theorem spec_PlanBaseOk.bits11 : waitsOk spec_PlanBaseOk.T11.2 spec_PlanBaseOk.B11 = true := by kernel_rfl
def spec_PlanBaseOk.T16 : Bool × List (List Nat × List Nat) := (true, [([], []), ([0], [0]), ([], []), ([1, 2], [1, 2]), ([3], [3]), ([4], [4]), ([], []), ([6], [6]), ([], []), ([7, 8], [7, 8]), ([9], [9]), ([10], [10]), ([5, 11], [5, 11]), ([12], [12]), ([13], [13]), ([14, 13], [13, 14]), ([13], [13]), ([15, 16, 13], [13, 15, 16]), ([17, 13], [13, 17]), ([18, 13], [13, 18]), ([13], [13]), ([20, 13], [13, 20]), ([13], [13]), ([21, 22, 13], [13, 21, 22]), ([23, 13], [13, 23]), ([24, 13], [13, 24]), ([19, 25, 13], [13, 19, 25]), ([13, 26], [13, 26])])
def spec_PlanBaseOk.B16 : List Nat := [0, 1, 0, 7, 15, 31, 0, 64, 0, 448, 960, 1984, 4095, 8191, 16383, 32767, 16383, 131071, 262143, 524287, 16383, 1064959, 16383, 7356415, 15745023, 32522239, 67108863, 134217727]
theorem spec_PlanBaseOk.tab16 : rtab .any (opsOf Try.f5 16) = spec_PlanBaseOk.T16 := by kernel_rfl
theorem spec_PlanBaseOk.bits16 : waitsOk spec_PlanBaseOk.T16.2 spec_PlanBaseOk.B16 = true := by kernel_rfl
set_option maxHeartbeats 8000000 in
set_option maxRecDepth 100000 in
theorem spec_PlanBaseOk.calls (k : Nat) (A0_0 : Option Addr) (c0_0 : Nat) (l0_0 : List (S39)) (A0_1 : Option Addr) (c0_1 : Nat) (l0_1 : List (S42)) (r : Bool) (w : World) (hr0_0 : Kd.C k39 w A0_0 l0_0.length l0_0) (hc0_0 : l0_0.length ≤ c0_0) (hr0_1 : Kd.C k42 w A0_1 l0_1.length l0_1) (hc0_1 : l0_1.length ≤ c0_1) (h : spec_PlanBaseOk.f k l0_0 l0_1 = some r) :
 Calls Try.prog 5 #[.agg #[.slice A0_0 l0_0.length c0_0, .slice A0_1 l0_1.length c0_1]] w fun e w' => e = .returned (.bool r) ∧ Below w.heap.size w w' := by
 have hu31 := Try.underlying31
 have hu39 := Try.underlying39
 have hu42 := Try.underlying42
 have HR0_0 := Aside0.mk hr0_0
 have HC0_0 := Aside0.mk hc0_0
 clear hr0_0 hc0_0
 have HR0_1 := Aside0.mk hr0_1
 have HC0_1 := Aside0.mk hc0_1
 clear hr0_1 hc0_1
 have HB := Aside0.mk (Below.refl w.heap.size w)
 have H : (if (l0_0.length : Int) > 6 then (spec_PlanBaseOk.j0 k true l0_0 l0_1) else (spec_PlanBaseOk.j0 k (decide ((l0_1.length : Int) > 16)) l0_0 l0_1)) = some r := h
 clear h
 have HC2 := Aside0.mk H
 clear H
 go_enter Try.func5, Try.ntmps5
 go_upto_region 1 with (first | ((with_reducible refine gate_dst (N := 1) rfl ?_); (try (refine gate_guard (by rfl) ?_; dsimp only)); refine zbx 1 #[.slice A0_0 l0_0.length c0_0, .slice A0_1 l0_1.length c0_1] 31 ?_; intro gb118 hg w3 hbox hb; have BK118 := zA hbox; have GW118 := zgs hg (zs0 HB); have GE118 := zgs hg (zs0 HB); replace HB := zE (zs0 HB) hb; clear hb hbox hg))
 (try simp only [Act.put, List.setIfInBounds_toArray, List.set_cons_zero, List.set_cons_succ])
 go_cut [15] (fun v15 wc => ∃ (kq : Nat) (x15_1 : Bool), v15 = .bool x15_1 ∧ Aside0 (spec_PlanBaseOk.j0 kq x15_1 l0_0 l0_1 = some r) ∧ Aside0 (kq ≤ k) ∧ Aside0 (wc.heap[gb118]? = some (.cells #[(.slice A0_0 l0_0.length c0_0), (.slice A0_1 l0_1.length c0_1)] 31 (0, 0))) ∧ Aside0 (Below w.heap.size w wc))
 case first =>
  have H := HC2.out
  clear HC2
  by_cases c4 : (l0_0.length : Int) > 6
  ·rw [if_pos c4] at H
   have c4b0 : decide (6 < (l0_0.length : Int)) = true := decide_eq_true c4
   have c4b1 : decide (6 < l0_0.length) = true := decide_eq_true (by omega)
   clear c4
   (first | rw [c4b0] | (simp only [i64_w, i32_w]; rw [c4b0]) | skip)
   have H' := Aside0.mk H
   clear H
   obtain ⟨hcz5_0, hcz5_1⟩ := zd2 BK118
   obtain ⟨hfz5_0, hfz5_1⟩ := zn2 BK118
   go_wp2
   go_meet
   case rel => exact ⟨_, (true), zi, H', ⟨by first | omega | exact Nat.le_refl _⟩, ⟨zh BK118⟩, ⟨zs1 HB GE118⟩⟩
  rw [if_neg c4] at H
  have c4b0 : decide (6 < (l0_0.length : Int)) = false := decide_eq_false c4
  have c4b1 : decide (6 < l0_0.length) = false := decide_eq_false (by omega)
  clear c4
  (first | rw [c4b0] | (simp only [i64_w, i32_w]; rw [c4b0]) | skip)
  have H' := Aside0.mk H
  clear H
  obtain ⟨hcz6_0, hcz6_1⟩ := zd2 BK118
  obtain ⟨hfz6_0, hfz6_1⟩ := zn2 BK118
  go_wp2
  go_meet
  case rel => exact ⟨_, (decide ((l0_1.length : Int) > 16)), zi, H', ⟨by first | omega | exact Nat.le_refl _⟩, ⟨zh BK118⟩, ⟨zs1 HB GE118⟩⟩
 case rest =>
  clear HC2
  try clear p2
  try clear c4
  try clear c4b0
  try clear c4b1
  try clear c5
  try clear hcz5_0 hcz5_1
  try clear hcz6_0 hcz6_1
  try clear hfz5_0 hfz5_1
  try clear hfz6_0 hfz6_1
  obtain ⟨kq, x15_1, rfl, HA, HJ1, BK118, HB⟩ := hcut
  cases kq with
  | zero => exact absurd HA.out (by simp [spec_PlanBaseOk.j0])
  | succ kj1 =>
   have H := HA.out
   clear HA
   simp only [spec_PlanBaseOk.j0] at H
   by_cases c7 : x15_1 = true
   ·subst c7
    have H1 : (some false) = some r := by rw [if_pos rfl] at H; exact H
    clear H
    have H := H1
    clear H1
    obtain rfl := Option.some.inj H
    go_wp2
    go_ret
    exact ⟨ze, zs1 HB GE118⟩
   replace c7 := Bool.eq_false_iff.mpr c7
   subst c7
   have H1 : (spec_PlanBaseOk.l0 kj1 0 l0_0 l0_1) = some r := by rw [if_neg (show ¬ (false = true) by decide)] at H; exact H
   clear H
   have H := H1
   clear H1
   have H' := Aside0.mk H
   clear H
   go_wp2
   go_loopg [3] kj1 (fun kq v3 w' => ∃ (x3_2 : Int), v3 = .int .i64 x3_2 ∧ Aside0 (spec_PlanBaseOk.l0 kq x3_2 l0_0 l0_1 = some r) ∧ Aside0 (kq ≤ kj1) ∧ Aside0 (w'.heap[gb118]? = some (.cells #[(.slice A0_0 l0_0.length c0_0), (.slice A0_1 l0_1.length c0_1)] 31 (0, 0))) ∧ Aside0 (Below w.heap.size w w'))
   case atStart => exact ⟨(0), zi, H', ⟨Nat.le_refl _⟩, ⟨zh BK118⟩, ⟨zs1 HB GE118⟩⟩
   case round =>
    clear H'
    try clear p2
    try clear c4
    try clear c4b0
    try clear c4b1
    try clear c5
    try clear c7
    try clear hcz5_0 hcz5_1
    try clear hcz6_0 hcz6_1
    try clear hfz5_0 hfz5_1
    try clear hfz6_0 hfz6_1
    try clear p2
    obtain ⟨x3_2, rfl, HA, HK2, BK118, HB⟩ := hrel
    cases gk with
    | zero => exact absurd HA.out (by simp [spec_PlanBaseOk.l0])
    | succ k2 =>
     have H := HA.out
     clear HA
     simp only [spec_PlanBaseOk.l0] at H
     by_cases c8 : x3_2 < (l0_0.length : Int)
     ·rw [if_pos c8] at H
      have c8b0 : decide (x3_2 < (l0_0.length : Int)) = true := decide_eq_true c8
      clear c8
      by_cases c9 : 0 ≤ x3_2
      rotate_left
      ·rw [if_neg c9] at H
       exact absurd H (by simp)
      rw [if_pos c9] at H
      have c9b0 : decide (0 ≤ x3_2) = true := decide_eq_true c9
      clear c9
      replace H := zbd H; obtain ⟨t120, A10, H⟩ := H
      by_cases c11 : t120 = true
      rotate_left
      ·replace c11 := Bool.eq_false_iff.mpr c11
       subst c11
       have H1 : (some false) = some r := by rw [if_neg (show ¬ (false = true) by decide)] at H; exact H
       clear H
       have H := H1
       clear H1
       obtain rfl := Option.some.inj H
       obtain ⟨hcz26_0, hcz26_1⟩ := zd2 BK118
       obtain ⟨hfz26_0, hfz26_1⟩ := zn2 BK118
       try go_wp2
       replace BK118 := Aside0.mk (blk_drew BK118.out)
       replace HB := Aside0.mk (below_drew1 HB.out)
       have p119 : 0 ≤ (x3_2 : Int) := za
       have q119 : x3_2 < (l0_0.length : Int) := za
       obtain ⟨ad119, e119, hx119_0, hx119_1, hx119_2⟩ := at_T39 HR0_0.out x3_2 p119 q119
       have hw119_2 := hx119_2
       have hw119_1 := hx119_1
       have hw119_0 := hx119_0
       cases e119
       replace hx119_0 := zx HB hx119_0
       replace hx119_1 := zx HB hx119_1
       replace hx119_2 := zx HB hx119_2
       replace p119 := eq_true p119
       replace q119 := eq_true q119
       refine start_ (n := 27) (S := fun w' => w'.cell? ⟨gb118, 0, none⟩ = some (.slice (some ad119) l0_0.length c0_0) ∧ w'.cell? ⟨gb118, 1, none⟩ = some (.slice A0_1 l0_1.length c0_1) ∧ w'.cell? (ad119.add ((x3_2).toNat * 3)) = some (.string ((rd_T39 l0_0 x3_2).f0)) ∧ w'.cell? ⟨(ad119.add ((x3_2).toNat * 3)).block, (ad119.add ((x3_2).toNat * 3)).off + 1, none⟩ = some (.int .i64 ((rd_T39 l0_0 x3_2).f1)) ∧ w'.cell? ⟨(ad119.add ((x3_2).toNat * 3)).block, (ad119.add ((x3_2).toNat * 3)).off + 2, none⟩ = some (.int .i64 ((rd_T39 l0_0 x3_2).f2))) (ds := []) #[false, false, false, false, false, false, false, false, false, false, false, false, false, false, false, false, false, false, false, false, false, false, false, false, false, false, false] (by kernel_rfl) rfl rfl ⟨zc0 BK118, zc1 BK118, (zw HB hw119_0), (zw HB hw119_1), (zw HB hw119_2)⟩ (fun hHeld => ?_); refine with_tabW spec_PlanBaseOk.tab6 spec_PlanBaseOk.bits6 (fun HT_ HW_ => ?_)
       generalize wr.drew = w27 at BK118 HB hx119_0 hx119_1 hx119_2 hHeld ⊢
       refine zq HT_ 0 ?_
       refine zq HT_ 2 ?_
       refine zk5 HT_ HW_ hHeld 1 ?_
       refine zq HT_ 3 ?_
       refine zk5 HT_ HW_ hHeld 4 ?_
       refine zo HT_ 5 (fun K hK => ?_)
       refine zgo Try.func11 #[.agg #[.string ((rd_T39 l0_0 x3_2).f0), .int .i64 ((rd_T39 l0_0 x3_2).f1), .int .i64 ((rd_T39 l0_0 x3_2).f2)]] ?_
       with_reducible refine (spec_l11KindOk.calls k2 ((rd_T39 l0_0 x3_2).f0) ((rd_T39 l0_0 x3_2).f1) ((rd_T39 l0_0 x3_2).f2) false _ A10.out).mono ?_
       rintro e w28 ⟨rfl, hb⟩
       refine ⟨_, rfl, ?_⟩
       replace BK118 := zb BK118 hb
       replace HB := zE (zs1 HB GE118) hb
       (try clear hb)
       (try clear hb2)
       (try clear hk)
       (try clear hi)
       refine hK.out _ _ ⟨zc0 BK118, zc1 BK118, (zw HB hw119_0), (zw HB hw119_1), (zw HB hw119_2)⟩ (fun hHeld => ?_)
       clear hK K
       refine zN ?_
       refine zq HT_ 6 ?_
       refine zq HT_ 7 ?_
       refine zu HT_ 8 ?_
       refine zu HT_ 9 ?_
       refine zu HT_ 10 ?_
       refine zu HT_ 11 ?_
       refine zu HT_ 12 ?_
       refine zu HT_ 13 ?_
       refine zu HT_ 14 ?_
       refine zu HT_ 15 ?_
       refine zu HT_ 16 ?_
       refine zu HT_ 17 ?_
       refine zu HT_ 18 ?_
       refine zu HT_ 19 ?_
       refine zu HT_ 20 ?_
       refine zu HT_ 21 ?_
       refine zu HT_ 22 ?_
       refine zu HT_ 23 ?_
       refine zu HT_ 24 ?_
       refine zu HT_ 25 ?_
       refine zq HT_ 26 ?_
       refine done_ (done_of HT_.out (by kernel_rfl)) ?_
       try go_wp2
       go_ret
       exact ⟨ze, zs1 HB GE118⟩
      subst c11
      have H1 : (if x3_2 > 0 then (if 0 ≤ (wrap64 (x3_2 - 1)) then (if (wrap64 (x3_2 - 1)) < (l0_0.length : Int) then (if ((Op.bytesLess (((rd_T39 l0_0 (wrap64 (x3_2 - 1))).f0).toList) (((rd_T39 l0_0 x3_2).f0).toList)) = true) then (spec_PlanBaseOk.l0 k2 (wrap64 (x3_2 + 1)) l0_0 l0_1) else (some false)) else (none)) else (none)) else (spec_PlanBaseOk.l0 k2 (wrap64 (x3_2 + 1)) l0_0 l0_1)) = some r := by rw [if_pos rfl] at H; exact H
      clear H
      have H := H1
      clear H1
      by_cases c12 : x3_2 > 0
      rotate_left
      ·rw [if_neg c12] at H
       have c12b0 : decide (0 < x3_2) = false := decide_eq_false c12
       clear c12
       have H' := Aside0.mk H
       clear H
       obtain ⟨hcz23_0, hcz23_1⟩ := zd2 BK118
       obtain ⟨hfz23_0, hfz23_1⟩ := zn2 BK118
       try go_wp2
       replace BK118 := Aside0.mk (blk_drew BK118.out)
       replace HB := Aside0.mk (below_drew1 HB.out)
       have p119 : 0 ≤ (x3_2 : Int) := za
       have q119 : x3_2 < (l0_0.length : Int) := za
       obtain ⟨ad119, e119, hx119_0, hx119_1, hx119_2⟩ := at_T39 HR0_0.out x3_2 p119 q119
       have hw119_2 := hx119_2
       have hw119_1 := hx119_1
       have hw119_0 := hx119_0
       cases e119
       replace hx119_0 := zx HB hx119_0
       replace hx119_1 := zx HB hx119_1
       replace hx119_2 := zx HB hx119_2
       replace p119 := eq_true p119
       replace q119 := eq_true q119
       refine start_ (n := 27) (S := fun w' => w'.cell? ⟨gb118, 0, none⟩ = some (.slice (some ad119) l0_0.length c0_0) ∧ w'.cell? ⟨gb118, 1, none⟩ = some (.slice A0_1 l0_1.length c0_1) ∧ w'.cell? (ad119.add ((x3_2).toNat * 3)) = some (.string ((rd_T39 l0_0 x3_2).f0)) ∧ w'.cell? ⟨(ad119.add ((x3_2).toNat * 3)).block, (ad119.add ((x3_2).toNat * 3)).off + 1, none⟩ = some (.int .i64 ((rd_T39 l0_0 x3_2).f1)) ∧ w'.cell? ⟨(ad119.add ((x3_2).toNat * 3)).block, (ad119.add ((x3_2).toNat * 3)).off + 2, none⟩ = some (.int .i64 ((rd_T39 l0_0 x3_2).f2))) (ds := []) #[false, false, false, false, false, false, false, false, false, false, false, false, false, false, false, false, false, false, false, false, false, false, false, false, false, false, false] (by kernel_rfl) rfl rfl ⟨zc0 BK118, zc1 BK118, (zw HB hw119_0), (zw HB hw119_1), (zw HB hw119_2)⟩ (fun hHeld => ?_); refine with_tabW spec_PlanBaseOk.tab6 spec_PlanBaseOk.bits6 (fun HT_ HW_ => ?_)
       generalize wr.drew = w24 at BK118 HB hx119_0 hx119_1 hx119_2 hHeld ⊢
       refine zq HT_ 0 ?_
       refine zq HT_ 2 ?_
       refine zk5 HT_ HW_ hHeld 1 ?_
       refine zq HT_ 3 ?_
       refine zk5 HT_ HW_ hHeld 4 ?_
       refine zo HT_ 5 (fun K hK => ?_)
       refine zgo Try.func11 #[.agg #[.string ((rd_T39 l0_0 x3_2).f0), .int .i64 ((rd_T39 l0_0 x3_2).f1), .int .i64 ((rd_T39 l0_0 x3_2).f2)]] ?_
       with_reducible refine (spec_l11KindOk.calls k2 ((rd_T39 l0_0 x3_2).f0) ((rd_T39 l0_0 x3_2).f1) ((rd_T39 l0_0 x3_2).f2) true _ A10.out).mono ?_
       rintro e w25 ⟨rfl, hb⟩
       refine ⟨_, rfl, ?_⟩
       replace BK118 := zb BK118 hb
       replace HB := zE (zs1 HB GE118) hb
       (try clear hb)
       (try clear hb2)
       (try clear hk)
       (try clear hi)
       refine hK.out _ _ ⟨zc0 BK118, zc1 BK118, (zw HB hw119_0), (zw HB hw119_1), (zw HB hw119_2)⟩ (fun hHeld => ?_)
       clear hK K
       refine zN ?_
       refine zq HT_ 6 ?_
       refine zq HT_ 7 ?_
       refine zq HT_ 8 ?_
       refine zq HT_ 9 ?_
       refine zq HT_ 10 ?_
       refine zu HT_ 11 ?_
       refine zu HT_ 12 ?_
       refine zu HT_ 13 ?_
       refine zu HT_ 14 ?_
       refine zu HT_ 15 ?_
       refine zu HT_ 16 ?_
       refine zu HT_ 17 ?_
       refine zu HT_ 18 ?_
       refine zu HT_ 19 ?_
       refine zu HT_ 20 ?_
       refine zu HT_ 21 ?_
       refine zu HT_ 22 ?_
       refine zu HT_ 23 ?_
       refine zu HT_ 24 ?_
       refine zq HT_ 25 ?_
       refine zq HT_ 26 ?_
       refine done_ (done_of HT_.out (by kernel_rfl)) ?_
       try go_wp2
       go_roundg k2
       case measure => have := HJ1.out; have := HK2.out; omega
       case rel => exact ⟨(wrap64 (x3_2 + 1)), zi, H', ⟨by have := HJ1.out; have := HK2.out; omega⟩, ⟨zh BK118⟩, ⟨zs1 HB GE118⟩⟩
      rw [if_pos c12] at H
      have c12b0 : decide (0 < x3_2) = true := decide_eq_true c12
      clear c12
      obtain ⟨ji13, hji13⟩ : ∃ j_ : Int, (wrap64 (x3_2 - 1)) = j_ := ⟨_, rfl⟩
      first | rw [hji13] at H | simp only [hji13] at H
      (try rw [hji13] at A10)
      have hji13w : (IntKind.i64.wrap (x3_2 - 1)) = ji13 := (i64_w _).trans hji13
      by_cases c14 : 0 ≤ (ji13)
      rotate_left
      ·rw [if_neg c14] at H
       exact absurd H (by simp)
      rw [if_pos c14] at H
      have c14b0 : decide (0 ≤ (ji13)) = true := decide_eq_true c14
      clear c14
      by_cases c15 : (ji13) < (l0_0.length : Int)
      rotate_left
      ·rw [if_neg c15] at H
       exact absurd H (by simp)
      rw [if_pos c15] at H
      have c15b0 : decide ((ji13) < (l0_0.length : Int)) = true := decide_eq_true c15
      clear c15
      by_cases c16 : ((Op.bytesLess (((rd_T39 l0_0 (ji13)).f0).toList) (((rd_T39 l0_0 x3_2).f0).toList)) = true)
      rotate_left
      ·rw [if_neg c16] at H
       have c16b0 : (Op.bytesLess (((rd_T39 l0_0 (ji13)).f0).toList) (((rd_T39 l0_0 x3_2).f0).toList)) = false := by simpa using c16
       clear c16
       obtain rfl := Option.some.inj H
       obtain ⟨hcz20_0, hcz20_1⟩ := zd2 BK118
       obtain ⟨hfz20_0, hfz20_1⟩ := zn2 BK118
       try go_wp2
       replace BK118 := Aside0.mk (blk_drew BK118.out)
       replace HB := Aside0.mk (below_drew1 HB.out)
       have p119 : 0 ≤ (x3_2 : Int) := za
       have q119 : x3_2 < (l0_0.length : Int) := za
       obtain ⟨ad119, e119, hx119_0, hx119_1, hx119_2⟩ := at_T39 HR0_0.out x3_2 p119 q119
       have hw119_2 := hx119_2
       have hw119_1 := hx119_1
       have hw119_0 := hx119_0
       cases e119
       replace hx119_0 := zx HB hx119_0
       replace hx119_1 := zx HB hx119_1
       replace hx119_2 := zx HB hx119_2
       replace p119 := eq_true p119
       replace q119 := eq_true q119
       have p121 : 0 ≤ ((ji13) : Int) := za
       have q121 : (ji13) < (l0_0.length : Int) := za
       obtain ⟨ad121, e121, hx121_0, hx121_1, hx121_2⟩ := at_T39 HR0_0.out (ji13) p121 q121
       have hw121_2 := hx121_2
       have hw121_1 := hx121_1
       have hw121_0 := hx121_0
       obtain rfl : ad119 = ad121 := (by injection e121)
       replace hx121_0 := zx HB hx121_0
       replace hx121_1 := zx HB hx121_1
       replace hx121_2 := zx HB hx121_2
       replace p121 := eq_true p121
       replace q121 := eq_true q121
       have p122 : 0 ≤ (x3_2 : Int) := za
       have q122 : x3_2 < (l0_0.length : Int) := za
       obtain ⟨ad122, e122, hx122_0, hx122_1, hx122_2⟩ := at_T39 HR0_0.out x3_2 p122 q122
       have hw122_2 := hx122_2
       have hw122_1 := hx122_1
       have hw122_0 := hx122_0
       obtain rfl : ad119 = ad122 := (by injection e122)
       replace hx122_0 := zx HB hx122_0
       replace hx122_1 := zx HB hx122_1
       replace hx122_2 := zx HB hx122_2
       replace p122 := eq_true p122
       replace q122 := eq_true q122
       refine start_ (n := 27) (S := fun w' => w'.cell? ⟨gb118, 0, none⟩ = some (.slice (some ad119) l0_0.length c0_0) ∧ w'.cell? ⟨gb118, 1, none⟩ = some (.slice A0_1 l0_1.length c0_1) ∧ w'.cell? (ad119.add ((x3_2).toNat * 3)) = some (.string ((rd_T39 l0_0 x3_2).f0)) ∧ w'.cell? ⟨(ad119.add ((x3_2).toNat * 3)).block, (ad119.add ((x3_2).toNat * 3)).off + 1, none⟩ = some (.int .i64 ((rd_T39 l0_0 x3_2).f1)) ∧ w'.cell? ⟨(ad119.add ((x3_2).toNat * 3)).block, (ad119.add ((x3_2).toNat * 3)).off + 2, none⟩ = some (.int .i64 ((rd_T39 l0_0 x3_2).f2)) ∧ w'.cell? (ad119.add (((ji13)).toNat * 3)) = some (.string ((rd_T39 l0_0 (ji13)).f0)) ∧ w'.cell? ⟨(ad119.add (((ji13)).toNat * 3)).block, (ad119.add (((ji13)).toNat * 3)).off + 1, none⟩ = some (.int .i64 ((rd_T39 l0_0 (ji13)).f1)) ∧ w'.cell? ⟨(ad119.add (((ji13)).toNat * 3)).block, (ad119.add (((ji13)).toNat * 3)).off + 2, none⟩ = some (.int .i64 ((rd_T39 l0_0 (ji13)).f2)) ∧ w'.cell? (ad119.add ((x3_2).toNat * 3)) = some (.string ((rd_T39 l0_0 x3_2).f0)) ∧ w'.cell? ⟨(ad119.add ((x3_2).toNat * 3)).block, (ad119.add ((x3_2).toNat * 3)).off + 1, none⟩ = some (.int .i64 ((rd_T39 l0_0 x3_2).f1)) ∧ w'.cell? ⟨(ad119.add ((x3_2).toNat * 3)).block, (ad119.add ((x3_2).toNat * 3)).off + 2, none⟩ = some (.int .i64 ((rd_T39 l0_0 x3_2).f2))) (ds := []) #[false, false, false, false, false, false, false, false, false, false, false, false, false, false, false, false, false, false, false, false, false, false, false, false, false, false, false] (by kernel_rfl) rfl rfl ⟨zc0 BK118, zc1 BK118, (zw HB hw119_0), (zw HB hw119_1), (zw HB hw119_2), (zw HB hw121_0), (zw HB hw121_1), (zw HB hw121_2), (zw HB hw122_0), (zw HB hw122_1), (zw HB hw122_2)⟩ (fun hHeld => ?_); refine with_tabW spec_PlanBaseOk.tab6 spec_PlanBaseOk.bits6 (fun HT_ HW_ => ?_)
       generalize wr.drew = w21 at BK118 HB hx119_0 hx119_1 hx119_2 hx121_0 hx121_1 hx121_2 hx122_0 hx122_1 hx122_2 hHeld ⊢
       refine zq HT_ 0 ?_
       refine zq HT_ 2 ?_
       refine zk11 HT_ HW_ hHeld 1 ?_
       refine zq HT_ 3 ?_
       refine zk11 HT_ HW_ hHeld 4 ?_
       refine zo HT_ 5 (fun K hK => ?_)
       refine zgo Try.func11 #[.agg #[.string ((rd_T39 l0_0 x3_2).f0), .int .i64 ((rd_T39 l0_0 x3_2).f1), .int .i64 ((rd_T39 l0_0 x3_2).f2)]] ?_
       with_reducible refine (spec_l11KindOk.calls k2 ((rd_T39 l0_0 x3_2).f0) ((rd_T39 l0_0 x3_2).f1) ((rd_T39 l0_0 x3_2).f2) true _ A10.out).mono ?_
       rintro e w22 ⟨rfl, hb⟩
       refine ⟨_, rfl, ?_⟩
       replace BK118 := zb BK118 hb
       replace HB := zE (zs1 HB GE118) hb
       (try clear hb)
       (try clear hb2)
       (try clear hk)
       (try clear hi)
       refine hK.out _ _ ⟨zc0 BK118, zc1 BK118, (zw HB hw119_0), (zw HB hw119_1), (zw HB hw119_2), (zw HB hw121_0), (zw HB hw121_1), (zw HB hw121_2), (zw HB hw122_0), (zw HB hw122_1), (zw HB hw122_2)⟩ (fun hHeld => ?_)
       clear hK K
       refine zN ?_
       refine zq HT_ 6 ?_
       refine zq HT_ 7 ?_
       refine zq HT_ 8 ?_
       refine zq HT_ 9 ?_
       refine zq HT_ 10 ?_
       refine zq HT_ 11 ?_
       refine zq HT_ 13 ?_
       refine zq HT_ 14 ?_
       refine zq HT_ 18 ?_
       refine zq HT_ 20 ?_
       refine zk11 HT_ HW_ hHeld 12 ?_
       refine zq HT_ 15 ?_
       refine zq HT_ 16 ?_
       refine zk11 HT_ HW_ hHeld 17 ?_
       refine zk11 HT_ HW_ hHeld 19 ?_
       refine zq HT_ 21 ?_
       refine zq HT_ 22 ?_
       refine zk11 HT_ HW_ hHeld 23 ?_
       refine zq HT_ 24 ?_
       refine zq HT_ 25 ?_
       refine zq HT_ 26 ?_
       refine done_ (done_of HT_.out (by kernel_rfl)) ?_
       try go_wp2
       go_ret
       exact ⟨by first | rfl | (simp [errW_none, errW_some] <;> rfl) | (simp only [← hji13]; first | rfl | (simp [errW_none, errW_some] <;> rfl)) | (simp [*, errW_none, errW_some] <;> rfl), zs1 HB GE118⟩
      rw [if_pos c16] at H
      have c16b0 : (Op.bytesLess (((rd_T39 l0_0 (ji13)).f0).toList) (((rd_T39 l0_0 x3_2).f0).toList)) = true := c16
      clear c16
      have H' := Aside0.mk H
      clear H
      obtain ⟨hcz17_0, hcz17_1⟩ := zd2 BK118
      obtain ⟨hfz17_0, hfz17_1⟩ := zn2 BK118
      try go_wp2
      replace BK118 := Aside0.mk (blk_drew BK118.out)
      replace HB := Aside0.mk (below_drew1 HB.out)
      have p119 : 0 ≤ (x3_2 : Int) := za
      have q119 : x3_2 < (l0_0.length : Int) := za
      obtain ⟨ad119, e119, hx119_0, hx119_1, hx119_2⟩ := at_T39 HR0_0.out x3_2 p119 q119
      have hw119_2 := hx119_2
      have hw119_1 := hx119_1
      have hw119_0 := hx119_0
      cases e119
      replace hx119_0 := zx HB hx119_0
      replace hx119_1 := zx HB hx119_1
      replace hx119_2 := zx HB hx119_2
      replace p119 := eq_true p119
      replace q119 := eq_true q119
      have p121 : 0 ≤ ((ji13) : Int) := za
      have q121 : (ji13) < (l0_0.length : Int) := za
      obtain ⟨ad121, e121, hx121_0, hx121_1, hx121_2⟩ := at_T39 HR0_0.out (ji13) p121 q121
      have hw121_2 := hx121_2
      have hw121_1 := hx121_1
      have hw121_0 := hx121_0
      obtain rfl : ad119 = ad121 := (by injection e121)
      replace hx121_0 := zx HB hx121_0
      replace hx121_1 := zx HB hx121_1
      replace hx121_2 := zx HB hx121_2
      replace p121 := eq_true p121
      replace q121 := eq_true q121
      have p122 : 0 ≤ (x3_2 : Int) := za
      have q122 : x3_2 < (l0_0.length : Int) := za
      obtain ⟨ad122, e122, hx122_0, hx122_1, hx122_2⟩ := at_T39 HR0_0.out x3_2 p122 q122
      have hw122_2 := hx122_2
      have hw122_1 := hx122_1
      have hw122_0 := hx122_0
      obtain rfl : ad119 = ad122 := (by injection e122)
      replace hx122_0 := zx HB hx122_0
      replace hx122_1 := zx HB hx122_1
      replace hx122_2 := zx HB hx122_2
      replace p122 := eq_true p122
      replace q122 := eq_true q122
      refine start_ (n := 27) (S := fun w' => w'.cell? ⟨gb118, 0, none⟩ = some (.slice (some ad119) l0_0.length c0_0) ∧ w'.cell? ⟨gb118, 1, none⟩ = some (.slice A0_1 l0_1.length c0_1) ∧ w'.cell? (ad119.add ((x3_2).toNat * 3)) = some (.string ((rd_T39 l0_0 x3_2).f0)) ∧ w'.cell? ⟨(ad119.add ((x3_2).toNat * 3)).block, (ad119.add ((x3_2).toNat * 3)).off + 1, none⟩ = some (.int .i64 ((rd_T39 l0_0 x3_2).f1)) ∧ w'.cell? ⟨(ad119.add ((x3_2).toNat * 3)).block, (ad119.add ((x3_2).toNat * 3)).off + 2, none⟩ = some (.int .i64 ((rd_T39 l0_0 x3_2).f2)) ∧ w'.cell? (ad119.add (((ji13)).toNat * 3)) = some (.string ((rd_T39 l0_0 (ji13)).f0)) ∧ w'.cell? ⟨(ad119.add (((ji13)).toNat * 3)).block, (ad119.add (((ji13)).toNat * 3)).off + 1, none⟩ = some (.int .i64 ((rd_T39 l0_0 (ji13)).f1)) ∧ w'.cell? ⟨(ad119.add (((ji13)).toNat * 3)).block, (ad119.add (((ji13)).toNat * 3)).off + 2, none⟩ = some (.int .i64 ((rd_T39 l0_0 (ji13)).f2)) ∧ w'.cell? (ad119.add ((x3_2).toNat * 3)) = some (.string ((rd_T39 l0_0 x3_2).f0)) ∧ w'.cell? ⟨(ad119.add ((x3_2).toNat * 3)).block, (ad119.add ((x3_2).toNat * 3)).off + 1, none⟩ = some (.int .i64 ((rd_T39 l0_0 x3_2).f1)) ∧ w'.cell? ⟨(ad119.add ((x3_2).toNat * 3)).block, (ad119.add ((x3_2).toNat * 3)).off + 2, none⟩ = some (.int .i64 ((rd_T39 l0_0 x3_2).f2))) (ds := []) #[false, false, false, false, false, false, false, false, false, false, false, false, false, false, false, false, false, false, false, false, false, false, false, false, false, false, false] (by kernel_rfl) rfl rfl ⟨zc0 BK118, zc1 BK118, (zw HB hw119_0), (zw HB hw119_1), (zw HB hw119_2), (zw HB hw121_0), (zw HB hw121_1), (zw HB hw121_2), (zw HB hw122_0), (zw HB hw122_1), (zw HB hw122_2)⟩ (fun hHeld => ?_); refine with_tabW spec_PlanBaseOk.tab6 spec_PlanBaseOk.bits6 (fun HT_ HW_ => ?_)
      generalize wr.drew = w18 at BK118 HB hx119_0 hx119_1 hx119_2 hx121_0 hx121_1 hx121_2 hx122_0 hx122_1 hx122_2 hHeld ⊢
      refine zq HT_ 0 ?_
      refine zq HT_ 2 ?_
      refine zk11 HT_ HW_ hHeld 1 ?_
      refine zq HT_ 3 ?_
      refine zk11 HT_ HW_ hHeld 4 ?_
      refine zo HT_ 5 (fun K hK => ?_)
      refine zgo Try.func11 #[.agg #[.string ((rd_T39 l0_0 x3_2).f0), .int .i64 ((rd_T39 l0_0 x3_2).f1), .int .i64 ((rd_T39 l0_0 x3_2).f2)]] ?_
      with_reducible refine (spec_l11KindOk.calls k2 ((rd_T39 l0_0 x3_2).f0) ((rd_T39 l0_0 x3_2).f1) ((rd_T39 l0_0 x3_2).f2) true _ A10.out).mono ?_
      rintro e w19 ⟨rfl, hb⟩
      refine ⟨_, rfl, ?_⟩
      replace BK118 := zb BK118 hb
      replace HB := zE (zs1 HB GE118) hb
      (try clear hb)
      (try clear hb2)
      (try clear hk)
      (try clear hi)
      refine hK.out _ _ ⟨zc0 BK118, zc1 BK118, (zw HB hw119_0), (zw HB hw119_1), (zw HB hw119_2), (zw HB hw121_0), (zw HB hw121_1), (zw HB hw121_2), (zw HB hw122_0), (zw HB hw122_1), (zw HB hw122_2)⟩ (fun hHeld => ?_)
      clear hK K
      refine zN ?_
      refine zq HT_ 6 ?_
      refine zq HT_ 7 ?_
      refine zq HT_ 8 ?_
      refine zq HT_ 9 ?_
      refine zq HT_ 10 ?_
      refine zq HT_ 11 ?_
      refine zq HT_ 13 ?_
      refine zq HT_ 14 ?_
      refine zq HT_ 18 ?_
      refine zq HT_ 20 ?_
      refine zk11 HT_ HW_ hHeld 12 ?_
      refine zq HT_ 15 ?_
      refine zq HT_ 16 ?_
      refine zk11 HT_ HW_ hHeld 17 ?_
      refine zk11 HT_ HW_ hHeld 19 ?_
      refine zq HT_ 21 ?_
      refine zq HT_ 22 ?_
      refine zk11 HT_ HW_ hHeld 23 ?_
      refine zq HT_ 24 ?_
      refine zq HT_ 25 ?_
      refine zq HT_ 26 ?_
      refine done_ (done_of HT_.out (by kernel_rfl)) ?_
      try go_wp2
      go_roundg k2
      case measure => have := HJ1.out; have := HK2.out; omega
      case rel => exact ⟨(wrap64 (x3_2 + 1)), zi, H', ⟨by have := HJ1.out; have := HK2.out; omega⟩, ⟨zh BK118⟩, ⟨zs1 HB GE118⟩⟩
     rw [if_neg c8] at H
     have c8b0 : decide (x3_2 < (l0_0.length : Int)) = false := decide_eq_false c8
     clear c8
     have H' := Aside0.mk H
     clear H
     obtain ⟨hcz29_0, hcz29_1⟩ := zd2 BK118
     obtain ⟨hfz29_0, hfz29_1⟩ := zn2 BK118
     go_wp2
     go_loopg [4] k2 (fun kq v4 w' => ∃ (x4_3 : Int), v4 = .int .i64 x4_3 ∧ Aside0 (spec_PlanBaseOk.l1 kq x4_3 l0_0 l0_1 = some r) ∧ Aside0 (kq ≤ k2) ∧ Aside0 (w'.heap[gb118]? = some (.cells #[(.slice A0_0 l0_0.length c0_0), (.slice A0_1 l0_1.length c0_1)] 31 (0, 0))) ∧ Aside0 (Below w.heap.size w w'))
     case atStart => exact ⟨(0), zi, H', ⟨Nat.le_refl _⟩, ⟨zh BK118⟩, ⟨zs1 HB GE118⟩⟩
     case round =>
      clear H'
      try clear c1
      try clear p1
      try clear q1
      try clear hx1
      try clear p2
      try clear p6
      try clear c8
      try clear c8b0
      try clear c9
      try clear c11
      try clear p11
      try clear q11
      try clear hx11
      try clear c12
      try clear c12b0
      try clear c14
      try clear c15
      try clear hcz23_0 hcz23_1
      try clear hcz26_0 hcz26_1
      try clear hcz29_0 hcz29_1
      try clear hfz23_0 hfz23_1
      try clear hfz26_0 hfz26_1
      try clear hfz29_0 hfz29_1
      try clear hx119_0
      try clear hx119_1
      try clear hx119_2
      try clear p119
      try clear q119
      obtain ⟨x4_3, rfl, HA, HK3, BK118, HB⟩ := hrel
      cases gk with
      | zero => exact absurd HA.out (by simp [spec_PlanBaseOk.l1])
      | succ k3 =>
       have H := HA.out
       clear HA
       simp only [spec_PlanBaseOk.l1] at H
       by_cases c30 : x4_3 < (l0_1.length : Int)
       rotate_left
       ·rw [if_neg c30] at H
        have c30b0 : decide (x4_3 < (l0_1.length : Int)) = false := decide_eq_false c30
        clear c30
        obtain rfl := Option.some.inj H
        obtain ⟨hcz57_0, hcz57_1⟩ := zd2 BK118
        obtain ⟨hfz57_0, hfz57_1⟩ := zn2 BK118
        go_wp2
        go_ret
        exact ⟨ze, zs1 HB GE118⟩
       rw [if_pos c30] at H
       have c30b0 : decide (x4_3 < (l0_1.length : Int)) = true := decide_eq_true c30
       clear c30
       have HC31 := Aside0.mk H
       clear H
       obtain ⟨hcz32_0, hcz32_1⟩ := zd2 BK118
       obtain ⟨hfz32_0, hfz32_1⟩ := zn2 BK118
       go_upto_region 11 with (fail)
       go_cut [83] (fun v83 wc => ∃ (kq : Nat) (x83_30 : Bool), v83 = .bool x83_30 ∧ Aside0 (spec_PlanBaseOk.j3 kq x4_3 x83_30 l0_0 l0_1 = some r) ∧ Aside0 (kq ≤ k3) ∧ Aside0 (wc.heap[gb118]? = some (.cells #[(.slice A0_0 l0_0.length c0_0), (.slice A0_1 l0_1.length c0_1)] 31 (0, 0))) ∧ Aside0 (Below w.heap.size w wc))
       case first =>
        have H := HC31.out
        clear HC31
        by_cases c33 : 0 ≤ x4_3
        rotate_left
        ·rw [if_neg c33] at H
         exact absurd H (by simp)
        rw [if_pos c33] at H
        have c33b0 : decide (0 ≤ x4_3) = true := decide_eq_true c33
        clear c33
        (first | rw [c33b0] | (simp only [i64_w, i32_w]; rw [c33b0]) | skip)
        replace H := zbd H; obtain ⟨t124, A34, H⟩ := H
        by_cases c35 : t124 = true
        rotate_left
        ·replace c35 := Bool.eq_false_iff.mpr c35
         subst c35
         have H1 : (spec_PlanBaseOk.j3 k3 x4_3 true l0_0 l0_1) = some r := by rw [if_neg (show ¬ (false = true) by decide)] at H; exact H
         clear H
         have H := H1
         clear H1
         have H' := Aside0.mk H
         clear H
         try go_wp2
         replace BK118 := Aside0.mk (blk_drew BK118.out)
         replace HB := Aside0.mk (below_drew1 HB.out)
         have p123 : 0 ≤ (x4_3 : Int) := za
         have q123 : x4_3 < (l0_1.length : Int) := za
         obtain ⟨ad123, e123, hx123_0, hx123_1, hx123_2⟩ := at_T42 HR0_1.out x4_3 p123 q123
         have hw123_2 := hx123_2
         have hw123_1 := hx123_1
         have hw123_0 := hx123_0
         cases e123
         replace hx123_0 := zx HB hx123_0
         replace hx123_1 := zx HB hx123_1
         replace hx123_2 := zx HB hx123_2
         replace p123 := eq_true p123
         replace q123 := eq_true q123
         refine start_ (n := 27) (S := fun w' => w'.cell? ⟨gb118, 0, none⟩ = some (.slice A0_0 l0_0.length c0_0) ∧ w'.cell? ⟨gb118, 1, none⟩ = some (.slice (some ad123) l0_1.length c0_1) ∧ w'.cell? (ad123.add ((x4_3).toNat * 3)) = some (.string ((rd_T42 l0_1 x4_3).f0)) ∧ w'.cell? ⟨(ad123.add ((x4_3).toNat * 3)).block, (ad123.add ((x4_3).toNat * 3)).off + 1, none⟩ = some (.int .i64 ((rd_T42 l0_1 x4_3).f1)) ∧ w'.cell? ⟨(ad123.add ((x4_3).toNat * 3)).block, (ad123.add ((x4_3).toNat * 3)).off + 2, none⟩ = some (.int .i64 ((rd_T42 l0_1 x4_3).f2))) (ds := []) #[false, false, false, false, false, false, false, false, false, false, false, false, false, false, false, false, false, false, false, false, false, false, false, false, false, false, false] (by kernel_rfl) rfl rfl ⟨zc0 BK118, zc1 BK118, (zw HB hw123_0), (zw HB hw123_1), (zw HB hw123_2)⟩ (fun hHeld => ?_); refine with_tabW spec_PlanBaseOk.tab11 spec_PlanBaseOk.bits11 (fun HT_ HW_ => ?_)
         generalize wr.drew = w44 at BK118 HB hx123_0 hx123_1 hx123_2 hHeld ⊢
         refine zq HT_ 0 ?_
         refine zq HT_ 2 ?_
         refine zk5 HT_ HW_ hHeld 1 ?_
         refine zq HT_ 3 ?_
         refine zk5 HT_ HW_ hHeld 4 ?_
         refine zo HT_ 5 (fun K hK => ?_)
         refine zgo Try.func12 #[.agg #[.string ((rd_T42 l0_1 x4_3).f0), .int .i64 ((rd_T42 l0_1 x4_3).f1), .int .i64 ((rd_T42 l0_1 x4_3).f2)]] ?_
         with_reducible refine (spec_l11PointOk.calls k3 ((rd_T42 l0_1 x4_3).f0) ((rd_T42 l0_1 x4_3).f1) ((rd_T42 l0_1 x4_3).f2) false _ A34.out).mono ?_
         rintro e w45 ⟨rfl, hb⟩
         refine ⟨_, rfl, ?_⟩
         replace BK118 := zb BK118 hb
         replace HB := zE (zs1 HB GE118) hb
         (try clear hb)
         (try clear hb2)
         (try clear hk)
         (try clear hi)
         refine hK.out _ _ ⟨zc0 BK118, zc1 BK118, (zw HB hw123_0), (zw HB hw123_1), (zw HB hw123_2)⟩ (fun hHeld => ?_)
         clear hK K
         refine zN ?_
         refine zq HT_ 6 ?_
         refine zq HT_ 7 ?_
         refine zu HT_ 8 ?_
         refine zu HT_ 9 ?_
         refine zu HT_ 10 ?_
         refine zu HT_ 11 ?_
         refine zu HT_ 12 ?_
         refine zu HT_ 13 ?_
         refine zu HT_ 14 ?_
         refine zu HT_ 15 ?_
         refine zu HT_ 16 ?_
         refine zu HT_ 17 ?_
         refine zu HT_ 18 ?_
         refine zu HT_ 19 ?_
         refine zu HT_ 20 ?_
         refine zu HT_ 21 ?_
         refine zu HT_ 22 ?_
         refine zu HT_ 23 ?_
         refine zu HT_ 24 ?_
         refine zu HT_ 25 ?_
         refine zq HT_ 26 ?_
         refine done_ (done_of HT_.out (by kernel_rfl)) ?_
         try go_wp2
         go_meet
         case rel => exact ⟨_, (true), zi, H', ⟨by have := HJ1.out; have := HK2.out; have := HK3.out; first | omega | exact Nat.le_refl _⟩, ⟨zh BK118⟩, ⟨zs1 HB GE118⟩⟩
        subst c35
        have H1 : (if x4_3 > 0 then (if 0 ≤ (wrap64 (x4_3 - 1)) then (if (wrap64 (x4_3 - 1)) < (l0_1.length : Int) then (spec_PlanBaseOk.j3 k3 x4_3 (!(Op.bytesLess (((rd_T42 l0_1 (wrap64 (x4_3 - 1))).f0).toList) (((rd_T42 l0_1 x4_3).f0).toList))) l0_0 l0_1) else (none)) else (none)) else (spec_PlanBaseOk.j3 k3 x4_3 false l0_0 l0_1)) = some r := by rw [if_pos rfl] at H; exact H
        clear H
        have H := H1
        clear H1
        by_cases c36 : x4_3 > 0
        rotate_left
        ·rw [if_neg c36] at H
         have c36b0 : decide (0 < x4_3) = false := decide_eq_false c36
         clear c36
         have H' := Aside0.mk H
         clear H
         try go_wp2
         replace BK118 := Aside0.mk (blk_drew BK118.out)
         replace HB := Aside0.mk (below_drew1 HB.out)
         have p123 : 0 ≤ (x4_3 : Int) := za
         have q123 : x4_3 < (l0_1.length : Int) := za
         obtain ⟨ad123, e123, hx123_0, hx123_1, hx123_2⟩ := at_T42 HR0_1.out x4_3 p123 q123
         have hw123_2 := hx123_2
         have hw123_1 := hx123_1
         have hw123_0 := hx123_0
         cases e123
         replace hx123_0 := zx HB hx123_0
         replace hx123_1 := zx HB hx123_1
         replace hx123_2 := zx HB hx123_2
         replace p123 := eq_true p123
         replace q123 := eq_true q123
         refine start_ (n := 27) (S := fun w' => w'.cell? ⟨gb118, 0, none⟩ = some (.slice A0_0 l0_0.length c0_0) ∧ w'.cell? ⟨gb118, 1, none⟩ = some (.slice (some ad123) l0_1.length c0_1) ∧ w'.cell? (ad123.add ((x4_3).toNat * 3)) = some (.string ((rd_T42 l0_1 x4_3).f0)) ∧ w'.cell? ⟨(ad123.add ((x4_3).toNat * 3)).block, (ad123.add ((x4_3).toNat * 3)).off + 1, none⟩ = some (.int .i64 ((rd_T42 l0_1 x4_3).f1)) ∧ w'.cell? ⟨(ad123.add ((x4_3).toNat * 3)).block, (ad123.add ((x4_3).toNat * 3)).off + 2, none⟩ = some (.int .i64 ((rd_T42 l0_1 x4_3).f2))) (ds := []) #[false, false, false, false, false, false, false, false, false, false, false, false, false, false, false, false, false, false, false, false, false, false, false, false, false, false, false] (by kernel_rfl) rfl rfl ⟨zc0 BK118, zc1 BK118, (zw HB hw123_0), (zw HB hw123_1), (zw HB hw123_2)⟩ (fun hHeld => ?_); refine with_tabW spec_PlanBaseOk.tab11 spec_PlanBaseOk.bits11 (fun HT_ HW_ => ?_)
         generalize wr.drew = w42 at BK118 HB hx123_0 hx123_1 hx123_2 hHeld ⊢
         refine zq HT_ 0 ?_
         refine zq HT_ 2 ?_
         refine zk5 HT_ HW_ hHeld 1 ?_
         refine zq HT_ 3 ?_
         refine zk5 HT_ HW_ hHeld 4 ?_
         refine zo HT_ 5 (fun K hK => ?_)
         refine zgo Try.func12 #[.agg #[.string ((rd_T42 l0_1 x4_3).f0), .int .i64 ((rd_T42 l0_1 x4_3).f1), .int .i64 ((rd_T42 l0_1 x4_3).f2)]] ?_
         with_reducible refine (spec_l11PointOk.calls k3 ((rd_T42 l0_1 x4_3).f0) ((rd_T42 l0_1 x4_3).f1) ((rd_T42 l0_1 x4_3).f2) true _ A34.out).mono ?_
         rintro e w43 ⟨rfl, hb⟩
         refine ⟨_, rfl, ?_⟩
         replace BK118 := zb BK118 hb
         replace HB := zE (zs1 HB GE118) hb
         (try clear hb)
         (try clear hb2)
         (try clear hk)
         (try clear hi)
         refine hK.out _ _ ⟨zc0 BK118, zc1 BK118, (zw HB hw123_0), (zw HB hw123_1), (zw HB hw123_2)⟩ (fun hHeld => ?_)
         clear hK K
         refine zN ?_
         refine zq HT_ 6 ?_
         refine zq HT_ 7 ?_
         refine zq HT_ 8 ?_
         refine zq HT_ 9 ?_
         refine zq HT_ 10 ?_
         refine zu HT_ 11 ?_
         refine zu HT_ 12 ?_
         refine zu HT_ 13 ?_
         refine zu HT_ 14 ?_
         refine zu HT_ 15 ?_
         refine zu HT_ 16 ?_
         refine zu HT_ 17 ?_
         refine zu HT_ 18 ?_
         refine zu HT_ 19 ?_
         refine zu HT_ 20 ?_
         refine zu HT_ 21 ?_
         refine zu HT_ 22 ?_
         refine zu HT_ 23 ?_
         refine zu HT_ 24 ?_
         refine zq HT_ 25 ?_
         refine zq HT_ 26 ?_
         refine done_ (done_of HT_.out (by kernel_rfl)) ?_
         try go_wp2
         go_meet
         case rel => exact ⟨_, (false), zi, H', ⟨by have := HJ1.out; have := HK2.out; have := HK3.out; first | omega | exact Nat.le_refl _⟩, ⟨zh BK118⟩, ⟨zs1 HB GE118⟩⟩
        rw [if_pos c36] at H
        have c36b0 : decide (0 < x4_3) = true := decide_eq_true c36
        clear c36
        obtain ⟨ji37, hji37⟩ : ∃ j_ : Int, (wrap64 (x4_3 - 1)) = j_ := ⟨_, rfl⟩
        first | rw [hji37] at H | simp only [hji37] at H
        (try rw [hji37] at A34)
        have hji37w : (IntKind.i64.wrap (x4_3 - 1)) = ji37 := (i64_w _).trans hji37
        by_cases c38 : 0 ≤ (ji37)
        rotate_left
        ·rw [if_neg c38] at H
         exact absurd H (by simp)
        rw [if_pos c38] at H
        have c38b0 : decide (0 ≤ (ji37)) = true := decide_eq_true c38
        clear c38
        by_cases c39 : (ji37) < (l0_1.length : Int)
        rotate_left
        ·rw [if_neg c39] at H
         exact absurd H (by simp)
        rw [if_pos c39] at H
        have c39b0 : decide ((ji37) < (l0_1.length : Int)) = true := decide_eq_true c39
        clear c39
        have H' := Aside0.mk H
        clear H
        try go_wp2
        replace BK118 := Aside0.mk (blk_drew BK118.out)
        replace HB := Aside0.mk (below_drew1 HB.out)
        have p123 : 0 ≤ (x4_3 : Int) := za
        have q123 : x4_3 < (l0_1.length : Int) := za
        obtain ⟨ad123, e123, hx123_0, hx123_1, hx123_2⟩ := at_T42 HR0_1.out x4_3 p123 q123
        have hw123_2 := hx123_2
        have hw123_1 := hx123_1
        have hw123_0 := hx123_0
        cases e123
        replace hx123_0 := zx HB hx123_0
        replace hx123_1 := zx HB hx123_1
        replace hx123_2 := zx HB hx123_2
        replace p123 := eq_true p123
        replace q123 := eq_true q123
        have p125 : 0 ≤ ((ji37) : Int) := za
        have q125 : (ji37) < (l0_1.length : Int) := za
        obtain ⟨ad125, e125, hx125_0, hx125_1, hx125_2⟩ := at_T42 HR0_1.out (ji37) p125 q125
        have hw125_2 := hx125_2
        have hw125_1 := hx125_1
        have hw125_0 := hx125_0
        obtain rfl : ad123 = ad125 := (by injection e125)
        replace hx125_0 := zx HB hx125_0
        replace hx125_1 := zx HB hx125_1
        replace hx125_2 := zx HB hx125_2
        replace p125 := eq_true p125
        replace q125 := eq_true q125
        have p126 : 0 ≤ (x4_3 : Int) := za
        have q126 : x4_3 < (l0_1.length : Int) := za
        obtain ⟨ad126, e126, hx126_0, hx126_1, hx126_2⟩ := at_T42 HR0_1.out x4_3 p126 q126
        have hw126_2 := hx126_2
        have hw126_1 := hx126_1
        have hw126_0 := hx126_0
        obtain rfl : ad123 = ad126 := (by injection e126)
        replace hx126_0 := zx HB hx126_0
        replace hx126_1 := zx HB hx126_1
        replace hx126_2 := zx HB hx126_2
        replace p126 := eq_true p126
        replace q126 := eq_true q126
        refine start_ (n := 27) (S := fun w' => w'.cell? ⟨gb118, 0, none⟩ = some (.slice A0_0 l0_0.length c0_0) ∧ w'.cell? ⟨gb118, 1, none⟩ = some (.slice (some ad123) l0_1.length c0_1) ∧ w'.cell? (ad123.add ((x4_3).toNat * 3)) = some (.string ((rd_T42 l0_1 x4_3).f0)) ∧ w'.cell? ⟨(ad123.add ((x4_3).toNat * 3)).block, (ad123.add ((x4_3).toNat * 3)).off + 1, none⟩ = some (.int .i64 ((rd_T42 l0_1 x4_3).f1)) ∧ w'.cell? ⟨(ad123.add ((x4_3).toNat * 3)).block, (ad123.add ((x4_3).toNat * 3)).off + 2, none⟩ = some (.int .i64 ((rd_T42 l0_1 x4_3).f2)) ∧ w'.cell? (ad123.add (((ji37)).toNat * 3)) = some (.string ((rd_T42 l0_1 (ji37)).f0)) ∧ w'.cell? ⟨(ad123.add (((ji37)).toNat * 3)).block, (ad123.add (((ji37)).toNat * 3)).off + 1, none⟩ = some (.int .i64 ((rd_T42 l0_1 (ji37)).f1)) ∧ w'.cell? ⟨(ad123.add (((ji37)).toNat * 3)).block, (ad123.add (((ji37)).toNat * 3)).off + 2, none⟩ = some (.int .i64 ((rd_T42 l0_1 (ji37)).f2)) ∧ w'.cell? (ad123.add ((x4_3).toNat * 3)) = some (.string ((rd_T42 l0_1 x4_3).f0)) ∧ w'.cell? ⟨(ad123.add ((x4_3).toNat * 3)).block, (ad123.add ((x4_3).toNat * 3)).off + 1, none⟩ = some (.int .i64 ((rd_T42 l0_1 x4_3).f1)) ∧ w'.cell? ⟨(ad123.add ((x4_3).toNat * 3)).block, (ad123.add ((x4_3).toNat * 3)).off + 2, none⟩ = some (.int .i64 ((rd_T42 l0_1 x4_3).f2))) (ds := []) #[false, false, false, false, false, false, false, false, false, false, false, false, false, false, false, false, false, false, false, false, false, false, false, false, false, false, false] (by kernel_rfl) rfl rfl ⟨zc0 BK118, zc1 BK118, (zw HB hw123_0), (zw HB hw123_1), (zw HB hw123_2), (zw HB hw125_0), (zw HB hw125_1), (zw HB hw125_2), (zw HB hw126_0), (zw HB hw126_1), (zw HB hw126_2)⟩ (fun hHeld => ?_); refine with_tabW spec_PlanBaseOk.tab11 spec_PlanBaseOk.bits11 (fun HT_ HW_ => ?_)
        generalize wr.drew = w40 at BK118 HB hx123_0 hx123_1 hx123_2 hx125_0 hx125_1 hx125_2 hx126_0 hx126_1 hx126_2 hHeld ⊢
        refine zq HT_ 0 ?_
        refine zq HT_ 2 ?_
        refine zk11 HT_ HW_ hHeld 1 ?_
        refine zq HT_ 3 ?_
        refine zk11 HT_ HW_ hHeld 4 ?_
        refine zo HT_ 5 (fun K hK => ?_)
        refine zgo Try.func12 #[.agg #[.string ((rd_T42 l0_1 x4_3).f0), .int .i64 ((rd_T42 l0_1 x4_3).f1), .int .i64 ((rd_T42 l0_1 x4_3).f2)]] ?_
        with_reducible refine (spec_l11PointOk.calls k3 ((rd_T42 l0_1 x4_3).f0) ((rd_T42 l0_1 x4_3).f1) ((rd_T42 l0_1 x4_3).f2) true _ A34.out).mono ?_
        rintro e w41 ⟨rfl, hb⟩
        refine ⟨_, rfl, ?_⟩
        replace BK118 := zb BK118 hb
        replace HB := zE (zs1 HB GE118) hb
        (try clear hb)
        (try clear hb2)
        (try clear hk)
        (try clear hi)
        refine hK.out _ _ ⟨zc0 BK118, zc1 BK118, (zw HB hw123_0), (zw HB hw123_1), (zw HB hw123_2), (zw HB hw125_0), (zw HB hw125_1), (zw HB hw125_2), (zw HB hw126_0), (zw HB hw126_1), (zw HB hw126_2)⟩ (fun hHeld => ?_)
        clear hK K
        refine zN ?_
        refine zq HT_ 6 ?_
        refine zq HT_ 7 ?_
        refine zq HT_ 8 ?_
        refine zq HT_ 9 ?_
        refine zq HT_ 10 ?_
        refine zq HT_ 11 ?_
        refine zq HT_ 13 ?_
        refine zq HT_ 14 ?_
        refine zq HT_ 18 ?_
        refine zq HT_ 20 ?_
        refine zk11 HT_ HW_ hHeld 12 ?_
        refine zq HT_ 15 ?_
        refine zq HT_ 16 ?_
        refine zk11 HT_ HW_ hHeld 17 ?_
        refine zk11 HT_ HW_ hHeld 19 ?_
        refine zq HT_ 21 ?_
        refine zq HT_ 22 ?_
        refine zk11 HT_ HW_ hHeld 23 ?_
        refine zq HT_ 24 ?_
        refine zq HT_ 25 ?_
        refine zq HT_ 26 ?_
        refine done_ (done_of HT_.out (by kernel_rfl)) ?_
        try go_wp2
        go_meet
        case rel => exact ⟨_, (!(Op.bytesLess (((rd_T42 l0_1 (ji37)).f0).toList) (((rd_T42 l0_1 x4_3).f0).toList))), (by first | rfl | (simp; done) | (simp only [← hji37] <;> (first | rfl | exact congrArg Value.bool (leq_not _ _) | exact leq_not _ _ | simp)) | (simp [*]; done)), H', ⟨by have := HJ1.out; have := HK2.out; have := HK3.out; first | omega | exact Nat.le_refl _⟩, ⟨zh BK118⟩, ⟨zs1 HB GE118⟩⟩
       case rest =>
        clear HC31
        try clear c1
        try clear p1
        try clear q1
        try clear hx1
        try clear p2
        try clear c3
        try clear c12
        try clear p12
        try clear q12
        try clear hx12
        try clear c33
        try clear c35
        try clear c36
        try clear c36b0
        try clear c38
        try clear c39
        try clear hx123_0
        try clear hx123_1
        try clear hx123_2
        try clear p123
        try clear q123
        obtain ⟨kq, x83_30, rfl, HA, HJ30, BK118, HB⟩ := hcut
        cases kq with
        | zero => exact absurd HA.out (by simp [spec_PlanBaseOk.j3])
        | succ kj30 =>
         have H := HA.out
         clear HA
         simp only [spec_PlanBaseOk.j3] at H
         by_cases c46 : x83_30 = true
         ·subst c46
          have H1 : (some false) = some r := by rw [if_pos rfl] at H; exact H
          clear H
          have H := H1
          clear H1
          obtain rfl := Option.some.inj H
          go_wp2
          go_ret
          exact ⟨ze, zs1 HB GE118⟩
         replace c46 := Bool.eq_false_iff.mpr c46
         subst c46
         have H1 : (spec_PlanBaseOk.l2 kj30 x4_3 0 l0_0 l0_1) = some r := by rw [if_neg (show ¬ (false = true) by decide)] at H; exact H
         clear H
         have H := H1
         clear H1
         have H' := Aside0.mk H
         clear H
         go_wp2
         go_loopg [5] kj30 (fun kq v5 w' => ∃ (x5_5 : Int), v5 = .int .i64 x5_5 ∧ Aside0 (spec_PlanBaseOk.l2 kq x4_3 x5_5 l0_0 l0_1 = some r) ∧ Aside0 (kq ≤ kj30) ∧ Aside0 (w'.heap[gb118]? = some (.cells #[(.slice A0_0 l0_0.length c0_0), (.slice A0_1 l0_1.length c0_1)] 31 (0, 0))) ∧ Aside0 (Below w.heap.size w w'))
         case atStart => exact ⟨(0), zi, H', ⟨Nat.le_refl _⟩, ⟨zh BK118⟩, ⟨zs1 HB GE118⟩⟩
         case round =>
          clear H'
          try clear c1
          try clear p1
          try clear q1
          try clear hx1
          try clear p2
          try clear c3
          try clear c4
          try clear c12
          try clear p12
          try clear q12
          try clear hx12
          try clear c33
          try clear c35
          try clear c36
          try clear c36b0
          try clear c38
          try clear c39
          try clear c46
          try clear hx123_0
          try clear hx123_1
          try clear hx123_2
          try clear p1
          try clear p12
          try clear p123
          try clear p2
          try clear q1
          try clear q12
          try clear q123
          obtain ⟨x5_5, rfl, HA, HK5, BK118, HB⟩ := hrel
          cases gk with
          | zero => exact absurd HA.out (by simp [spec_PlanBaseOk.l2])
          | succ k5 =>
           have H := HA.out
           clear HA
           simp only [spec_PlanBaseOk.l2] at H
           by_cases c47 : x5_5 < x4_3
           rotate_left
           ·rw [if_neg c47] at H
            have c47b0 : decide (x5_5 < x4_3) = false := decide_eq_false c47
            clear c47
            have H' := Aside0.mk H
            clear H
            go_wp2
            go_roundg k5
            case measure => have := HJ1.out; have := HK2.out; have := HK3.out; have := HJ30.out; have := HK5.out; omega
            case rel => exact ⟨(wrap64 (x4_3 + 1)), zi, H', ⟨by have := HJ1.out; have := HK2.out; have := HK3.out; have := HJ30.out; have := HK5.out; omega⟩, ⟨zh BK118⟩, ⟨zs1 HB GE118⟩⟩
           rw [if_pos c47] at H
           have c47b0 : decide (x5_5 < x4_3) = true := decide_eq_true c47
           clear c47
           by_cases c48 : 0 ≤ x5_5
           rotate_left
           ·rw [if_neg c48] at H
            exact absurd H (by simp)
           rw [if_pos c48] at H
           have c48b0 : decide (0 ≤ x5_5) = true := decide_eq_true c48
           clear c48
           by_cases c49 : x5_5 < (l0_1.length : Int)
           rotate_left
           ·rw [if_neg c49] at H
            exact absurd H (by simp)
           rw [if_pos c49] at H
           have c49b0 : decide (x5_5 < (l0_1.length : Int)) = true := decide_eq_true c49
           clear c49
           by_cases c50 : 0 ≤ x4_3
           rotate_left
           ·rw [if_neg c50] at H
            exact absurd H (by simp)
           rw [if_pos c50] at H
           have c50b0 : decide (0 ≤ x4_3) = true := decide_eq_true c50
           clear c50
           by_cases c51 : x4_3 < (l0_1.length : Int)
           rotate_left
           ·rw [if_neg c51] at H
            exact absurd H (by simp)
           rw [if_pos c51] at H
           have c51b0 : decide (x4_3 < (l0_1.length : Int)) = true := decide_eq_true c51
           clear c51
           by_cases c52 : ((rd_T42 l0_1 x5_5).f1) = ((rd_T42 l0_1 x4_3).f1)
           rotate_left
           ·rw [if_neg c52] at H
            have c52b0 : (((rd_T42 l0_1 x5_5).f1) == ((rd_T42 l0_1 x4_3).f1)) = false := beq_eq_false_iff_ne.mpr c52
            have c52b1 : (((rd_T42 l0_1 x5_5).f1) != ((rd_T42 l0_1 x4_3).f1)) = true := bne_iff_ne.mpr c52
            have H' := Aside0.mk H
            clear H
            try go_wp2
            replace BK118 := Aside0.mk (blk_drew BK118.out)
            replace HB := Aside0.mk (below_drew1 HB.out)
            have p127 : 0 ≤ (x5_5 : Int) := za
            have q127 : x5_5 < (l0_1.length : Int) := za
            obtain ⟨ad127, e127, hx127_0, hx127_1, hx127_2⟩ := at_T42 HR0_1.out x5_5 p127 q127
            have hw127_2 := hx127_2
            have hw127_1 := hx127_1
            have hw127_0 := hx127_0
            cases e127
            replace hx127_0 := zx HB hx127_0
            replace hx127_1 := zx HB hx127_1
            replace hx127_2 := zx HB hx127_2
            replace p127 := eq_true p127
            replace q127 := eq_true q127
            have p128 : 0 ≤ (x4_3 : Int) := za
            have q128 : x4_3 < (l0_1.length : Int) := za
            obtain ⟨ad128, e128, hx128_0, hx128_1, hx128_2⟩ := at_T42 HR0_1.out x4_3 p128 q128
            have hw128_2 := hx128_2
            have hw128_1 := hx128_1
            have hw128_0 := hx128_0
            obtain rfl : ad127 = ad128 := (by injection e128)
            replace hx128_0 := zx HB hx128_0
            replace hx128_1 := zx HB hx128_1
            replace hx128_2 := zx HB hx128_2
            replace p128 := eq_true p128
            replace q128 := eq_true q128
            refine start_ (n := 28) (S := fun w' => w'.cell? ⟨gb118, 0, none⟩ = some (.slice A0_0 l0_0.length c0_0) ∧ w'.cell? ⟨gb118, 1, none⟩ = some (.slice (some ad127) l0_1.length c0_1) ∧ w'.cell? (ad127.add ((x5_5).toNat * 3)) = some (.string ((rd_T42 l0_1 x5_5).f0)) ∧ w'.cell? ⟨(ad127.add ((x5_5).toNat * 3)).block, (ad127.add ((x5_5).toNat * 3)).off + 1, none⟩ = some (.int .i64 ((rd_T42 l0_1 x5_5).f1)) ∧ w'.cell? ⟨(ad127.add ((x5_5).toNat * 3)).block, (ad127.add ((x5_5).toNat * 3)).off + 2, none⟩ = some (.int .i64 ((rd_T42 l0_1 x5_5).f2)) ∧ w'.cell? (ad127.add ((x4_3).toNat * 3)) = some (.string ((rd_T42 l0_1 x4_3).f0)) ∧ w'.cell? ⟨(ad127.add ((x4_3).toNat * 3)).block, (ad127.add ((x4_3).toNat * 3)).off + 1, none⟩ = some (.int .i64 ((rd_T42 l0_1 x4_3).f1)) ∧ w'.cell? ⟨(ad127.add ((x4_3).toNat * 3)).block, (ad127.add ((x4_3).toNat * 3)).off + 2, none⟩ = some (.int .i64 ((rd_T42 l0_1 x4_3).f2))) (ds := []) #[false, false, false, false, false, false, false, false, false, false, false, false, false, false, false, false, false, false, false, false, false, false, false, false, false, false, false, false] (by kernel_rfl) rfl rfl ⟨zc0 BK118, zc1 BK118, (zw HB hw127_0), (zw HB hw127_1), (zw HB hw127_2), (zw HB hw128_0), (zw HB hw128_1), (zw HB hw128_2)⟩ (fun hHeld => ?_); refine with_tabW spec_PlanBaseOk.tab16 spec_PlanBaseOk.bits16 (fun HT_ HW_ => ?_)
            generalize wr.drew = w56 at BK118 HB hx127_0 hx127_1 hx127_2 hx128_0 hx128_1 hx128_2 hHeld ⊢
            refine zq HT_ 0 ?_
            refine zq HT_ 2 ?_
            refine zq HT_ 6 ?_
            refine zq HT_ 8 ?_
            refine zk8 HT_ HW_ hHeld 1 ?_
            refine zq HT_ 3 ?_
            refine zq HT_ 4 ?_
            refine zk8 HT_ HW_ hHeld 5 ?_
            refine zk8 HT_ HW_ hHeld 7 ?_
            refine zq HT_ 9 ?_
            refine zq HT_ 10 ?_
            refine zk8 HT_ HW_ hHeld 11 ?_
            refine zq HT_ 12 ?_
            refine zq HT_ 13 ?_
            refine zu HT_ 14 ?_
            refine zu HT_ 15 ?_
            refine zu HT_ 16 ?_
            refine zu HT_ 17 ?_
            refine zu HT_ 18 ?_
            refine zu HT_ 19 ?_
            refine zu HT_ 20 ?_
            refine zu HT_ 21 ?_
            refine zu HT_ 22 ?_
            refine zu HT_ 23 ?_
            refine zu HT_ 24 ?_
            refine zu HT_ 25 ?_
            refine zu HT_ 26 ?_
            refine zq HT_ 27 ?_
            refine done_ (done_of HT_.out (by kernel_rfl)) ?_
            try go_wp2
            go_roundg k5
            case measure => have := HJ1.out; have := HK2.out; have := HK3.out; have := HJ30.out; have := HK5.out; omega
            case rel => exact ⟨(wrap64 (x5_5 + 1)), zi, H', ⟨by have := HJ1.out; have := HK2.out; have := HK3.out; have := HJ30.out; have := HK5.out; omega⟩, ⟨zh BK118⟩, ⟨zs1 HB GE118⟩⟩
           rw [if_pos c52] at H
           have c52b0 : (((rd_T42 l0_1 x5_5).f1) == ((rd_T42 l0_1 x4_3).f1)) = true := beq_iff_eq.mpr c52
           have c52b1 : (((rd_T42 l0_1 x5_5).f1) != ((rd_T42 l0_1 x4_3).f1)) = false := bne_eq_false_iff_eq.mpr c52
           clear c52
           by_cases c53 : ((rd_T42 l0_1 x5_5).f2) = ((rd_T42 l0_1 x4_3).f2)
           ·rw [if_pos c53] at H
            have c53b0 : (((rd_T42 l0_1 x5_5).f2) == ((rd_T42 l0_1 x4_3).f2)) = true := beq_iff_eq.mpr c53
            have c53b1 : (((rd_T42 l0_1 x5_5).f2) != ((rd_T42 l0_1 x4_3).f2)) = false := bne_eq_false_iff_eq.mpr c53
            clear c53
            obtain rfl := Option.some.inj H
            try go_wp2
            replace BK118 := Aside0.mk (blk_drew BK118.out)
            replace HB := Aside0.mk (below_drew1 HB.out)
            have p127 : 0 ≤ (x5_5 : Int) := za
            have q127 : x5_5 < (l0_1.length : Int) := za
            obtain ⟨ad127, e127, hx127_0, hx127_1, hx127_2⟩ := at_T42 HR0_1.out x5_5 p127 q127
            have hw127_2 := hx127_2
            have hw127_1 := hx127_1
            have hw127_0 := hx127_0
            cases e127
            replace hx127_0 := zx HB hx127_0
            replace hx127_1 := zx HB hx127_1
            replace hx127_2 := zx HB hx127_2
            replace p127 := eq_true p127
            replace q127 := eq_true q127
            have p128 : 0 ≤ (x4_3 : Int) := za
            have q128 : x4_3 < (l0_1.length : Int) := za
            obtain ⟨ad128, e128, hx128_0, hx128_1, hx128_2⟩ := at_T42 HR0_1.out x4_3 p128 q128
            have hw128_2 := hx128_2
            have hw128_1 := hx128_1
            have hw128_0 := hx128_0
            obtain rfl : ad127 = ad128 := (by injection e128)
            replace hx128_0 := zx HB hx128_0
            replace hx128_1 := zx HB hx128_1
            replace hx128_2 := zx HB hx128_2
            replace p128 := eq_true p128
            replace q128 := eq_true q128
            have p129 : 0 ≤ (x5_5 : Int) := za
            have q129 : x5_5 < (l0_1.length : Int) := za
            obtain ⟨ad129, e129, hx129_0, hx129_1, hx129_2⟩ := at_T42 HR0_1.out x5_5 p129 q129
            have hw129_2 := hx129_2
            have hw129_1 := hx129_1
            have hw129_0 := hx129_0
            obtain rfl : ad127 = ad129 := (by injection e129)
            replace hx129_0 := zx HB hx129_0
            replace hx129_1 := zx HB hx129_1
            replace hx129_2 := zx HB hx129_2
            replace p129 := eq_true p129
            replace q129 := eq_true q129
            have p130 : 0 ≤ (x4_3 : Int) := za
            have q130 : x4_3 < (l0_1.length : Int) := za
            obtain ⟨ad130, e130, hx130_0, hx130_1, hx130_2⟩ := at_T42 HR0_1.out x4_3 p130 q130
            have hw130_2 := hx130_2
            have hw130_1 := hx130_1
            have hw130_0 := hx130_0
            obtain rfl : ad127 = ad130 := (by injection e130)
            replace hx130_0 := zx HB hx130_0
            replace hx130_1 := zx HB hx130_1
            replace hx130_2 := zx HB hx130_2
            replace p130 := eq_true p130
            replace q130 := eq_true q130
            refine start_ (n := 28) (S := fun w' => w'.cell? ⟨gb118, 0, none⟩ = some (.slice A0_0 l0_0.length c0_0) ∧ w'.cell? ⟨gb118, 1, none⟩ = some (.slice (some ad127) l0_1.length c0_1) ∧ w'.cell? (ad127.add ((x5_5).toNat * 3)) = some (.string ((rd_T42 l0_1 x5_5).f0)) ∧ w'.cell? ⟨(ad127.add ((x5_5).toNat * 3)).block, (ad127.add ((x5_5).toNat * 3)).off + 1, none⟩ = some (.int .i64 ((rd_T42 l0_1 x5_5).f1)) ∧ w'.cell? ⟨(ad127.add ((x5_5).toNat * 3)).block, (ad127.add ((x5_5).toNat * 3)).off + 2, none⟩ = some (.int .i64 ((rd_T42 l0_1 x5_5).f2)) ∧ w'.cell? (ad127.add ((x4_3).toNat * 3)) = some (.string ((rd_T42 l0_1 x4_3).f0)) ∧ w'.cell? ⟨(ad127.add ((x4_3).toNat * 3)).block, (ad127.add ((x4_3).toNat * 3)).off + 1, none⟩ = some (.int .i64 ((rd_T42 l0_1 x4_3).f1)) ∧ w'.cell? ⟨(ad127.add ((x4_3).toNat * 3)).block, (ad127.add ((x4_3).toNat * 3)).off + 2, none⟩ = some (.int .i64 ((rd_T42 l0_1 x4_3).f2)) ∧ w'.cell? (ad127.add ((x5_5).toNat * 3)) = some (.string ((rd_T42 l0_1 x5_5).f0)) ∧ w'.cell? ⟨(ad127.add ((x5_5).toNat * 3)).block, (ad127.add ((x5_5).toNat * 3)).off + 1, none⟩ = some (.int .i64 ((rd_T42 l0_1 x5_5).f1)) ∧ w'.cell? ⟨(ad127.add ((x5_5).toNat * 3)).block, (ad127.add ((x5_5).toNat * 3)).off + 2, none⟩ = some (.int .i64 ((rd_T42 l0_1 x5_5).f2)) ∧ w'.cell? (ad127.add ((x4_3).toNat * 3)) = some (.string ((rd_T42 l0_1 x4_3).f0)) ∧ w'.cell? ⟨(ad127.add ((x4_3).toNat * 3)).block, (ad127.add ((x4_3).toNat * 3)).off + 1, none⟩ = some (.int .i64 ((rd_T42 l0_1 x4_3).f1)) ∧ w'.cell? ⟨(ad127.add ((x4_3).toNat * 3)).block, (ad127.add ((x4_3).toNat * 3)).off + 2, none⟩ = some (.int .i64 ((rd_T42 l0_1 x4_3).f2))) (ds := []) #[false, false, false, false, false, false, false, false, false, false, false, false, false, false, false, false, false, false, false, false, false, false, false, false, false, false, false, false] (by kernel_rfl) rfl rfl ⟨zc0 BK118, zc1 BK118, (zw HB hw127_0), (zw HB hw127_1), (zw HB hw127_2), (zw HB hw128_0), (zw HB hw128_1), (zw HB hw128_2), (zw HB hw129_0), (zw HB hw129_1), (zw HB hw129_2), (zw HB hw130_0), (zw HB hw130_1), (zw HB hw130_2)⟩ (fun hHeld => ?_); refine with_tabW spec_PlanBaseOk.tab16 spec_PlanBaseOk.bits16 (fun HT_ HW_ => ?_)
            generalize wr.drew = w54 at BK118 HB hx127_0 hx127_1 hx127_2 hx128_0 hx128_1 hx128_2 hx129_0 hx129_1 hx129_2 hx130_0 hx130_1 hx130_2 hHeld ⊢
            refine zq HT_ 0 ?_
            refine zq HT_ 2 ?_
            refine zq HT_ 6 ?_
            refine zq HT_ 8 ?_
            refine zk14 HT_ HW_ hHeld 1 ?_
            refine zq HT_ 3 ?_
            refine zq HT_ 4 ?_
            refine zk14 HT_ HW_ hHeld 5 ?_
            refine zk14 HT_ HW_ hHeld 7 ?_
            refine zq HT_ 9 ?_
            refine zq HT_ 10 ?_
            refine zk14 HT_ HW_ hHeld 11 ?_
            refine zq HT_ 12 ?_
            refine zq HT_ 13 ?_
            refine zq HT_ 14 ?_
            refine zq HT_ 16 ?_
            refine zq HT_ 20 ?_
            refine zq HT_ 22 ?_
            refine zk14 HT_ HW_ hHeld 15 ?_
            refine zq HT_ 17 ?_
            refine zq HT_ 18 ?_
            refine zk14 HT_ HW_ hHeld 19 ?_
            refine zk14 HT_ HW_ hHeld 21 ?_
            refine zq HT_ 23 ?_
            refine zq HT_ 24 ?_
            refine zk14 HT_ HW_ hHeld 25 ?_
            refine zq HT_ 26 ?_
            refine zq HT_ 27 ?_
            refine done_ (done_of HT_.out (by kernel_rfl)) ?_
            try go_wp2
            go_ret
            exact ⟨ze, zs1 HB GE118⟩
           rw [if_neg c53] at H
           have c53b0 : (((rd_T42 l0_1 x5_5).f2) == ((rd_T42 l0_1 x4_3).f2)) = false := beq_eq_false_iff_ne.mpr c53
           have c53b1 : (((rd_T42 l0_1 x5_5).f2) != ((rd_T42 l0_1 x4_3).f2)) = true := bne_iff_ne.mpr c53
           have H' := Aside0.mk H
           clear H
           try go_wp2
           replace BK118 := Aside0.mk (blk_drew BK118.out)
           replace HB := Aside0.mk (below_drew1 HB.out)
           have p127 : 0 ≤ (x5_5 : Int) := za
           have q127 : x5_5 < (l0_1.length : Int) := za
           obtain ⟨ad127, e127, hx127_0, hx127_1, hx127_2⟩ := at_T42 HR0_1.out x5_5 p127 q127
           have hw127_2 := hx127_2
           have hw127_1 := hx127_1
           have hw127_0 := hx127_0
           cases e127
           replace hx127_0 := zx HB hx127_0
           replace hx127_1 := zx HB hx127_1
           replace hx127_2 := zx HB hx127_2
           replace p127 := eq_true p127
           replace q127 := eq_true q127
           have p128 : 0 ≤ (x4_3 : Int) := za
           have q128 : x4_3 < (l0_1.length : Int) := za
           obtain ⟨ad128, e128, hx128_0, hx128_1, hx128_2⟩ := at_T42 HR0_1.out x4_3 p128 q128
           have hw128_2 := hx128_2
           have hw128_1 := hx128_1
           have hw128_0 := hx128_0
           obtain rfl : ad127 = ad128 := (by injection e128)
           replace hx128_0 := zx HB hx128_0
           replace hx128_1 := zx HB hx128_1
           replace hx128_2 := zx HB hx128_2
           replace p128 := eq_true p128
           replace q128 := eq_true q128
           have p129 : 0 ≤ (x5_5 : Int) := za
           have q129 : x5_5 < (l0_1.length : Int) := za
           obtain ⟨ad129, e129, hx129_0, hx129_1, hx129_2⟩ := at_T42 HR0_1.out x5_5 p129 q129
           have hw129_2 := hx129_2
           have hw129_1 := hx129_1
           have hw129_0 := hx129_0
           obtain rfl : ad127 = ad129 := (by injection e129)
           replace hx129_0 := zx HB hx129_0
           replace hx129_1 := zx HB hx129_1
           replace hx129_2 := zx HB hx129_2
           replace p129 := eq_true p129
           replace q129 := eq_true q129
           have p130 : 0 ≤ (x4_3 : Int) := za
           have q130 : x4_3 < (l0_1.length : Int) := za
           obtain ⟨ad130, e130, hx130_0, hx130_1, hx130_2⟩ := at_T42 HR0_1.out x4_3 p130 q130
           have hw130_2 := hx130_2
           have hw130_1 := hx130_1
           have hw130_0 := hx130_0
           obtain rfl : ad127 = ad130 := (by injection e130)
           replace hx130_0 := zx HB hx130_0
           replace hx130_1 := zx HB hx130_1
           replace hx130_2 := zx HB hx130_2
           replace p130 := eq_true p130
           replace q130 := eq_true q130
           refine start_ (n := 28) (S := fun w' => w'.cell? ⟨gb118, 0, none⟩ = some (.slice A0_0 l0_0.length c0_0) ∧ w'.cell? ⟨gb118, 1, none⟩ = some (.slice (some ad127) l0_1.length c0_1) ∧ w'.cell? (ad127.add ((x5_5).toNat * 3)) = some (.string ((rd_T42 l0_1 x5_5).f0)) ∧ w'.cell? ⟨(ad127.add ((x5_5).toNat * 3)).block, (ad127.add ((x5_5).toNat * 3)).off + 1, none⟩ = some (.int .i64 ((rd_T42 l0_1 x5_5).f1)) ∧ w'.cell? ⟨(ad127.add ((x5_5).toNat * 3)).block, (ad127.add ((x5_5).toNat * 3)).off + 2, none⟩ = some (.int .i64 ((rd_T42 l0_1 x5_5).f2)) ∧ w'.cell? (ad127.add ((x4_3).toNat * 3)) = some (.string ((rd_T42 l0_1 x4_3).f0)) ∧ w'.cell? ⟨(ad127.add ((x4_3).toNat * 3)).block, (ad127.add ((x4_3).toNat * 3)).off + 1, none⟩ = some (.int .i64 ((rd_T42 l0_1 x4_3).f1)) ∧ w'.cell? ⟨(ad127.add ((x4_3).toNat * 3)).block, (ad127.add ((x4_3).toNat * 3)).off + 2, none⟩ = some (.int .i64 ((rd_T42 l0_1 x4_3).f2)) ∧ w'.cell? (ad127.add ((x5_5).toNat * 3)) = some (.string ((rd_T42 l0_1 x5_5).f0)) ∧ w'.cell? ⟨(ad127.add ((x5_5).toNat * 3)).block, (ad127.add ((x5_5).toNat * 3)).off + 1, none⟩ = some (.int .i64 ((rd_T42 l0_1 x5_5).f1)) ∧ w'.cell? ⟨(ad127.add ((x5_5).toNat * 3)).block, (ad127.add ((x5_5).toNat * 3)).off + 2, none⟩ = some (.int .i64 ((rd_T42 l0_1 x5_5).f2)) ∧ w'.cell? (ad127.add ((x4_3).toNat * 3)) = some (.string ((rd_T42 l0_1 x4_3).f0)) ∧ w'.cell? ⟨(ad127.add ((x4_3).toNat * 3)).block, (ad127.add ((x4_3).toNat * 3)).off + 1, none⟩ = some (.int .i64 ((rd_T42 l0_1 x4_3).f1)) ∧ w'.cell? ⟨(ad127.add ((x4_3).toNat * 3)).block, (ad127.add ((x4_3).toNat * 3)).off + 2, none⟩ = some (.int .i64 ((rd_T42 l0_1 x4_3).f2))) (ds := []) #[false, false, false, false, false, false, false, false, false, false, false, false, false, false, false, false, false, false, false, false, false, false, false, false, false, false, false, false] (by kernel_rfl) rfl rfl ⟨zc0 BK118, zc1 BK118, (zw HB hw127_0), (zw HB hw127_1), (zw HB hw127_2), (zw HB hw128_0), (zw HB hw128_1), (zw HB hw128_2), (zw HB hw129_0), (zw HB hw129_1), (zw HB hw129_2), (zw HB hw130_0), (zw HB hw130_1), (zw HB hw130_2)⟩ (fun hHeld => ?_); refine with_tabW spec_PlanBaseOk.tab16 spec_PlanBaseOk.bits16 (fun HT_ HW_ => ?_)
           generalize wr.drew = w55 at BK118 HB hx127_0 hx127_1 hx127_2 hx128_0 hx128_1 hx128_2 hx129_0 hx129_1 hx129_2 hx130_0 hx130_1 hx130_2 hHeld ⊢
           refine zq HT_ 0 ?_
           refine zq HT_ 2 ?_
           refine zq HT_ 6 ?_
           refine zq HT_ 8 ?_
           refine zk14 HT_ HW_ hHeld 1 ?_
           refine zq HT_ 3 ?_
           refine zq HT_ 4 ?_
           refine zk14 HT_ HW_ hHeld 5 ?_
           refine zk14 HT_ HW_ hHeld 7 ?_
           refine zq HT_ 9 ?_
           refine zq HT_ 10 ?_
           refine zk14 HT_ HW_ hHeld 11 ?_
           refine zq HT_ 12 ?_
           refine zq HT_ 13 ?_
           refine zq HT_ 14 ?_
           refine zq HT_ 16 ?_
           refine zq HT_ 20 ?_
           refine zq HT_ 22 ?_
           refine zk14 HT_ HW_ hHeld 15 ?_
           refine zq HT_ 17 ?_
           refine zq HT_ 18 ?_
           refine zk14 HT_ HW_ hHeld 19 ?_
           refine zk14 HT_ HW_ hHeld 21 ?_
           refine zq HT_ 23 ?_
           refine zq HT_ 24 ?_
           refine zk14 HT_ HW_ hHeld 25 ?_
           refine zq HT_ 26 ?_
           refine zq HT_ 27 ?_
           refine done_ (done_of HT_.out (by kernel_rfl)) ?_
           try go_wp2
           go_roundg k5
           case measure => have := HJ1.out; have := HK2.out; have := HK3.out; have := HJ30.out; have := HK5.out; omega
           case rel => exact ⟨(wrap64 (x5_5 + 1)), zi, H', ⟨by have := HJ1.out; have := HK2.out; have := HK3.out; have := HJ30.out; have := HK5.out; omega⟩, ⟨zh BK118⟩, ⟨zs1 HB GE118⟩⟩
end Go.Proofs.Ytleenmphhlioaaa.QFnExactPlanBaseOk
