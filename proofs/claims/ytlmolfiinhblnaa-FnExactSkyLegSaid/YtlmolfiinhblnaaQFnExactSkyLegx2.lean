/- The walk of what the law FnExactSkyLeg reaches: laid by a program of this session (ownprint.py). -/
import Derived.Test.YtlmolfiinhblnaaQFnExactSkyLegx0
import Derived.Test.YtlmolfiinhblnaaQFnExactSkyLegx1
namespace Go.Proofs.Ytlmolfiinhblnaa.QFnExactSkyLeg
open Go.RowKit Go.Proofs.YtlmolfiinhblnaaW.PrintWords Go.Proofs.YtlmolfiinhblnaaW.PrintLast Go.Proofs.YtlmolfiinhblnaaW.PrintMore Go.Proofs.Ytlmolfiinhblnaa.Z
attribute [local go_sem] max2_int min2_int max_two min_two max_three min_three max_four min_four zdn   -- for this text's walks alone
set_option linter.unusedVariables false
set_option linter.unusedSimpArgs false
mutual
def spec_SkyLeg.j0 : Nat → List (S26) → Bool → Int → Int → Int → Int → Option ((List (S26)))
 | 0, _, _, _, _, _, _ => none
 | k + 1, x5, x18, x109000, x109001, x110000, x110001 => if x18 = true then (some x5) else (if x110000 < x109000 then (spec_SkyLeg.j1 k x5 true x109000 x109001 x110000 x110001) else (if x110000 = x109000 then (spec_SkyLeg.j1 k x5 (decide (x110001 < x109001)) x109000 x109001 x110000 x110001) else (spec_SkyLeg.j1 k x5 false x109000 x109001 x110000 x110001)))
def spec_SkyLeg.j1 : Nat → List (S26) → Bool → Int → Int → Int → Int → Option ((List (S26)))
 | 0, _, _, _, _, _, _ => none
 | k + 1, x5, x38, x109000, x109001, x110000, x110001 => if x38 = true then ((spec_SkyLeg.f k x110000 x110001 x109000 x109001).bind fun t115 => (spec_SkyLeg.l0 k x5 t115 (wrap64 ((t115.length : Int) - 1)))) else ((spec_l6Steps.f x109000 x109001 x110000 x110001).bind fun t122 => (if x5.length < 8796093022208 then (spec_SkyLeg.l1 k (x5 ++ [(⟨x109000, x109001⟩ : S26)]) t122 1 x109000 x109001 x110000 x110001) else (none)))
def spec_SkyLeg.l0 : Nat → List (S26) → List (S26) → Int → Option ((List (S26)))
 | 0, _, _, _ => none
 | k + 1, x5, x6, x7 => if x7 ≥ 0 then (if 0 ≤ x7 then (if x7 < (x6.length : Int) then (if x5.length < 8796093022208 then (spec_SkyLeg.l0 k (x5 ++ [(⟨(rd_T26 x6 x7).f0, (rd_T26 x6 x7).f1⟩ : S26)]) x6 (wrap64 (x7 - 1))) else (none)) else (none)) else (none)) else (some x5)
def spec_SkyLeg.l1 : Nat → List (S26) → Int → Int → Int → Int → Int → Int → Option ((List (S26)))
 | 0, _, _, _, _, _, _, _ => none
 | k + 1, x5, x8, x9, x109000, x109001, x110000, x110001 => if x9 ≤ x8 then ((spec_l6Part.f (wrap64 (x110000 - x109000)) x9 x8).bind fun t126 => ((spec_l6Part.f (wrap64 (x110001 - x109001)) x9 x8).bind fun t127 => (if x5.length < 8796093022208 then (spec_SkyLeg.l1 k (x5 ++ [(⟨wrap64 (x109000 + t126), wrap64 (x109001 + t127)⟩ : S26)]) x8 (wrap64 (x9 + 1)) x109000 x109001 x110000 x110001) else (none)))) else (some x5)
def spec_SkyLeg.f : Nat → Int → Int → Int → Int → Option ((List (S26)))
 | 0, _, _, _, _ => none
 | k + 1, a0_0, a0_1, a1_0, a1_1 => (some (([] : List (S26)) : List (S26))).bind fun y110 => ((spec_l6Inside.f a0_0 a0_1).bind fun t113 => (if t113 = true then ((spec_l6Inside.f a1_0 a1_1).bind fun t114 => (spec_SkyLeg.j0 k y110 (!t114) a0_0 a0_1 a1_0 a1_1)) else (spec_SkyLeg.j0 k y110 true a0_0 a0_1 a1_0 a1_1)))
end
def spec_SkyLeg.T16 : Bool × List (List Nat × List Nat) := (true, [([], []), ([], []), ([1], [1]), ([], []), ([3], [3]), ([], []), ([5], [5]), ([4, 6], [4, 6]), ([], []), ([], []), ([7, 8, 9], [7, 8, 9]), ([2, 10], [2, 10]), ([], []), ([12], [12]), ([], []), ([14], [14]), ([], []), ([16], [16]), ([15, 17], [15, 17]), ([], []), ([], []), ([18, 19, 20, 10], [18, 19, 20]), ([13, 21], [13, 21]), ([11, 22], [11, 22]), ([23], [23]), ([0, 24, 21], [0, 24]), ([25, 25, 0, 1, 2, 3, 4, 5, 6, 7, 8, 9, 10, 11, 12, 13, 14, 15, 16, 17, 18, 19, 20, 21, 22, 23, 24, 25], [0, 25])])
def spec_SkyLeg.B16 : List Nat := [0, 0, 2, 0, 8, 0, 32, 120, 0, 0, 1016, 2046, 0, 4096, 0, 16384, 0, 65536, 245760, 0, 0, 2082808, 4192248, 8388606, 16777214, 33554431, 67108863]
theorem spec_SkyLeg.tab16 : rtab .any (opsOf Try.f4 16) = spec_SkyLeg.T16 := by kernel_rfl
theorem spec_SkyLeg.bits16 : waitsOk spec_SkyLeg.T16.2 spec_SkyLeg.B16 = true := by kernel_rfl
set_option maxHeartbeats 8000000 in
set_option maxRecDepth 100000 in
theorem spec_SkyLeg.calls (k : Nat) : ∀ (a0_0 : Int) (a0_1 : Int) (a1_0 : Int) (a1_1 : Int) (r : List (S26)) (w : World) (h : spec_SkyLeg.f k a0_0 a0_1 a1_0 a1_1 = some r),
 Calls Try.prog 4 #[.agg #[.int .i64 a0_0, .int .i64 a0_1], .agg #[.int .i64 a1_0, .int .i64 a1_1]] w fun e w' => ∃ v0_ : Value, e = .returned (v0_) ∧ Kd.R k26 26 w' w.heap.size (fun _ => True) v0_ r ∧ Below w.heap.size w w' := by
 induction k using Nat.strongRecOn with
 | _ k ih =>
 intro a0_0 a0_1 a1_0 a1_1 r w h
 cases k with
 | zero => exact absurd h (by simp [spec_SkyLeg.f])
 | succ k =>
 simp only [spec_SkyLeg.f] at h
 have hu26 := Try.underlying26
 have HB := zA (Below.refl w.heap.size w)
 have H : ((some (([] : List (S26)) : List (S26))).bind fun y110 => ((spec_l6Inside.f a0_0 a0_1).bind fun t113 => (if t113 = true then ((spec_l6Inside.f a1_0 a1_1).bind fun t114 => (spec_SkyLeg.j0 k y110 (!t114) a0_0 a0_1 a1_0 a1_1)) else (spec_SkyLeg.j0 k y110 true a0_0 a0_1 a1_0 a1_1)))) = some r := h
 clear h
 obtain ⟨y110, hy110⟩ : ∃ y_ : List (S26), y_ = (([] : List (S26))) := ⟨_, rfl⟩
 replace H : ((spec_l6Inside.f a0_0 a0_1).bind fun t113 => (if t113 = true then ((spec_l6Inside.f a1_0 a1_1).bind fun t114 => (spec_SkyLeg.j0 k y110 (!t114) a0_0 a0_1 a1_0 a1_1)) else (spec_SkyLeg.j0 k y110 true a0_0 a0_1 a1_0 a1_1))) = some r := by first | (rw [hy110]; with_reducible exact H) | (have H2_ := (Option.bind_some _ _).symm.trans H; rw [hy110]; with_reducible exact H2_) | (have H2_ := (Option.bind_some _ _).symm.trans H; with_reducible exact H2_) | with_reducible exact H | (rw [hy110]; exact H) | exact H
 have Ny110 := zA hy110
 clear hy110
 have HC3 := zA H
 clear H
 go_enter Try.func4, Try.ntmps4
 go_upto_region 2 with (first | ((with_reducible refine gate_dst (N := 2) rfl ?_); refine zbx 2 #[.int .i64 a0_0, .int .i64 a0_1] 26 ?_; intro gb108 hg w4 hbox hb; have BK108 := zA hbox; have GW108 := zgs hg (zs0 HB); have GE108 := zgs hg (zs0 HB); replace HB := zE (zs0 HB) hb; clear hb hbox hg) | ((with_reducible refine gate_dst (N := 3) rfl ?_); refine zbx 3 #[.int .i64 a1_0, .int .i64 a1_1] 26 ?_; intro gb109 hg w5 hbox hb; have BK109 := zA hbox; have GW109 := zgs hg (zs1 HB GE108); have GE109 := zgs hg (zs1 HB GE108); have NB108_109 := zne hg BK108; have NB109_108 := znf hg BK108; replace BK108 := zb BK108 hb; replace HB := zE (zs1 HB GE108) hb; clear hb hbox hg) | ((with_reducible refine gate_dst (N := 10) rfl ?_); refine Kd.R_lit k26 _ 26 ?hg (N := 10) ?hd (xs := ([] : List (S26))) (inner := []) (ok := fun _ => True) (okp := fun _ => True) ?hr ?hp (fun _ hk => hk) trivial (Below.refl _ _) (Nat.le_refl _) (by simp) ?_; (case hd => rfl); (case hg => rfl); (case hr => first | (go_simp; done) | (go_simp; rfl)); (case hp => exact (Reps.none _ _)); intro v111 w6 ho7 hb hg_ hnew_; clear hg_ hnew_; (first | rw [← Ny110.out] at ho7 | (simp only [Int.reduceToNat] at ho7; rw [← Ny110.out] at ho7)); have HO112 := zA (Kd.R_lower (Kd.R_newB (Kd.R_newB ho7 (g := gb108) (o := .cells #[.int .i64 a0_0, .int .i64 a0_1] 26 (0, 0)) (zh BK108)) (g := gb109) (o := .cells #[.int .i64 a1_0, .int .i64 a1_1] 26 (0, 0)) (zh BK109)) (below_size (zs2 HB GE108 GE109))); replace BK108 := zb BK108 hb; replace BK109 := zb BK109 hb; replace HB := zE (zs2 HB GE108 GE109) hb; clear hb ho7))
 (try simp only [Act.put, List.setIfInBounds_toArray, List.set_cons_zero, List.set_cons_succ])
 go_cut [18] (fun v18 wc => ∃ (kq : Nat) (x18_2 : Bool), v18 = .bool x18_2 ∧ Aside0 (spec_SkyLeg.j0 kq y110 x18_2 a0_0 a0_1 a1_0 a1_1 = some r) ∧ Aside0 (kq ≤ k) ∧ Aside0 (Kd.R k26 26 wc w.heap.size (fun k_ => k_ ≠ gb108 ∧ k_ ≠ gb109) v111 y110) ∧ Aside0 (wc.heap[gb108]? = some (.cells #[.int .i64 a0_0, .int .i64 a0_1] 26 (0, 0))) ∧ Aside0 (wc.heap[gb109]? = some (.cells #[.int .i64 a1_0, .int .i64 a1_1] 26 (0, 0))) ∧ Aside0 (Below w.heap.size w wc))
 case first =>
  have H := HC3.out
  clear HC3
  replace H := zbd H; obtain ⟨t113, A8, H⟩ := H
  by_cases c9 : t113 = true
  rotate_left
  ·replace c9 := Bool.eq_false_iff.mpr c9
   subst c9
   have H1 : (spec_SkyLeg.j0 k y110 true a0_0 a0_1 a1_0 a1_1) = some r := by rw [if_neg (show ¬ (false = true) by decide)] at H; exact H
   clear H
   have H := H1
   clear H1
   have H' := zA H
   clear H
   have hnb16 := NB108_109.out
   have hnc16 := NB109_108.out
   obtain ⟨hcz17_0, hcz17_1⟩ := zd2 BK108
   obtain ⟨hfz17_0, hfz17_1⟩ := zn2 BK108
   go_wp2_with (first | ((with_reducible refine gate_callee (f := 10) rfl ?_); refine zgl (N := some 12) Try.func10 #[.agg #[.int .i64 a0_0, .int .i64 a0_1]] ?_; (with_reducible refine (spec_l6Inside.calls a0_0 a0_1 false _ A8.out).mono ?_); rintro e w18 ⟨rfl, hb⟩; refine ⟨_, rfl, ?_⟩; replace HO112 := zA (Kd.R_below (zr HO112) hb); replace BK108 := zb BK108 hb; replace BK109 := zb BK109 hb; replace HB := zE (zs2 HB GE108 GE109) hb; (try clear hb); (try clear hb2); (try clear hk); (try clear hi)))
   go_meet
   case rel => exact ⟨_, (true), zi, H', ⟨by first | omega | exact Nat.le_refl _⟩, ⟨by (with_reducible repeat (first | apply Kd.R_alloc | apply Kd.R_drewN | apply Kd.R_drew)); exact Kd.R_mono HO112.out (fun _ hk => ⟨hk.1.2, hk.2⟩)⟩, ⟨zh BK108⟩, ⟨zh BK109⟩, ⟨zs2 HB GE108 GE109⟩⟩
  subst c9
  have H1 : ((spec_l6Inside.f a1_0 a1_1).bind fun t114 => (spec_SkyLeg.j0 k y110 (!t114) a0_0 a0_1 a1_0 a1_1)) = some r := by rw [if_pos rfl] at H; exact H
  clear H
  have H := H1
  clear H1
  replace H := zbd H; obtain ⟨t114, A10, H⟩ := H
  have H' := zA H
  clear H
  have hnb11 := NB108_109.out
  have hnc11 := NB109_108.out
  obtain ⟨hcz12_0, hcz12_1⟩ := zd2 BK108
  obtain ⟨hfz12_0, hfz12_1⟩ := zn2 BK108
  go_wp2_with (first | ((with_reducible refine gate_callee (f := 10) rfl ?_); refine zgl (N := some 12) Try.func10 #[.agg #[.int .i64 a0_0, .int .i64 a0_1]] ?_; (with_reducible refine (spec_l6Inside.calls a0_0 a0_1 true _ A8.out).mono ?_); rintro e w13 ⟨rfl, hb⟩; refine ⟨_, rfl, ?_⟩; replace HO112 := zA (Kd.R_below (zr HO112) hb); replace BK108 := zb BK108 hb; replace BK109 := zb BK109 hb; replace HB := zE (zs2 HB GE108 GE109) hb; (try clear hb); (try clear hb2); (try clear hk); (try clear hi); obtain ⟨hcz14_0, hcz14_1⟩ := zd2 BK109; obtain ⟨hfz14_0, hfz14_1⟩ := zn2 BK109) | (go_at_call 10; (with_reducible refine (spec_l6Inside.calls a1_0 a1_1 t114 _ A10.out).mono ?_); rintro e w15 ⟨rfl, hb⟩; replace HO112 := zA (Kd.R_below (zr HO112) hb); replace BK108 := zb BK108 hb; replace BK109 := zb BK109 hb; replace HB := zE (zs2 HB GE108 GE109) hb; (try clear hb); (try clear hb2); (try clear hk); (try clear hi)))
  go_meet
  case rel => exact ⟨_, (!t114), zi, H', ⟨by first | omega | exact Nat.le_refl _⟩, ⟨by (with_reducible repeat (first | apply Kd.R_alloc | apply Kd.R_drewN | apply Kd.R_drew)); exact Kd.R_mono HO112.out (fun _ hk => ⟨hk.1.2, hk.2⟩)⟩, ⟨zh BK108⟩, ⟨zh BK109⟩, ⟨zs2 HB GE108 GE109⟩⟩
 case rest =>
  clear HC3
  try clear c1
  try clear p2
  try clear c4
  try clear c9
  try clear c10
  try clear c11
  try clear c16
  try clear hcz12_0 hcz12_1
  try clear hcz14_0 hcz14_1
  try clear hcz17_0 hcz17_1
  try clear hfz12_0 hfz12_1
  try clear hfz14_0 hfz14_1
  try clear hfz17_0 hfz17_1
  obtain ⟨kq, x18_2, rfl, HA, HJ2, HO_5, BK108, BK109, HB⟩ := hcut
  cases kq with
  | zero => exact absurd HA.out (by simp [spec_SkyLeg.j0])
  | succ kj2 =>
   have H := HA.out
   clear HA
   simp only [spec_SkyLeg.j0] at H
   by_cases c19 : x18_2 = true
   ·subst c19
    have H1 : (some y110) = some r := by rw [if_pos rfl] at H; exact H
    clear H
    have H := H1
    clear H1
    obtain rfl := Option.some.inj H
    go_wp2
    go_ret
    exact ⟨_, ze, by (with_reducible repeat (first | apply Kd.R_alloc | apply Kd.R_drewN | apply Kd.R_drew)); exact Kd.R_mono HO_5.out (fun _ hk => trivial), zs2 HB GE108 GE109⟩
   replace c19 := Bool.eq_false_iff.mpr c19
   subst c19
   have H1 : (if a1_0 < a0_0 then (spec_SkyLeg.j1 kj2 y110 true a0_0 a0_1 a1_0 a1_1) else (if a1_0 = a0_0 then (spec_SkyLeg.j1 kj2 y110 (decide (a1_1 < a0_1)) a0_0 a0_1 a1_0 a1_1) else (spec_SkyLeg.j1 kj2 y110 false a0_0 a0_1 a1_0 a1_1))) = some r := by rw [if_neg (show ¬ (false = true) by decide)] at H; exact H
   clear H
   have H := H1
   clear H1
   have HC20 := zA H
   clear H
   go_upto_region 4 with (fail)
   go_cut [38] (fun v38 wc => ∃ (kq : Nat) (x38_19 : Bool), v38 = .bool x38_19 ∧ Aside0 (spec_SkyLeg.j1 kq y110 x38_19 a0_0 a0_1 a1_0 a1_1 = some r) ∧ Aside0 (kq ≤ kj2) ∧ Aside0 (Kd.R k26 26 wc w.heap.size (fun k_ => k_ ≠ gb108 ∧ k_ ≠ gb109) v111 y110) ∧ Aside0 (wc.heap[gb108]? = some (.cells #[.int .i64 a0_0, .int .i64 a0_1] 26 (0, 0))) ∧ Aside0 (wc.heap[gb109]? = some (.cells #[.int .i64 a1_0, .int .i64 a1_1] 26 (0, 0))) ∧ Aside0 (Below w.heap.size w wc))
   case first =>
    have H := HC20.out
    clear HC20
    by_cases c21 : a1_0 < a0_0
    ·rw [if_pos c21] at H
     have c21b0 : decide (a1_0 < a0_0) = true := decide_eq_true c21
     clear c21
     (first | rw [c21b0] | (simp only [i64_w, i32_w]; rw [c21b0]) | skip)
     have H' := zA H
     clear H
     have hnb22 := NB109_108.out
     have hnc22 := NB108_109.out
     obtain ⟨hcz23_0, hcz23_1⟩ := zd2 BK109
     obtain ⟨hfz23_0, hfz23_1⟩ := zn2 BK109
     obtain ⟨hcz24_0, hcz24_1⟩ := zd2 BK108
     obtain ⟨hfz24_0, hfz24_1⟩ := zn2 BK108
     go_wp2
     go_meet
     case rel => exact ⟨_, (true), zi, H', ⟨by have := HJ2.out; first | omega | exact Nat.le_refl _⟩, ⟨zr HO_5⟩, ⟨zh BK108⟩, ⟨zh BK109⟩, ⟨zs2 HB GE108 GE109⟩⟩
    rw [if_neg c21] at H
    have c21b0 : decide (a1_0 < a0_0) = false := decide_eq_false c21
    clear c21
    (first | rw [c21b0] | (simp only [i64_w, i32_w]; rw [c21b0]) | skip)
    by_cases c25 : a1_0 = a0_0
    rotate_left
    ·rw [if_neg c25] at H
     have c25b0 : (a1_0 == a0_0) = false := beq_eq_false_iff_ne.mpr c25
     have c25b1 : (a1_0 != a0_0) = true := bne_iff_ne.mpr c25
     have H' := zA H
     clear H
     have hnb29 := NB109_108.out
     have hnc29 := NB108_109.out
     obtain ⟨hcz30_0, hcz30_1⟩ := zd2 BK109
     obtain ⟨hfz30_0, hfz30_1⟩ := zn2 BK109
     obtain ⟨hcz31_0, hcz31_1⟩ := zd2 BK108
     obtain ⟨hfz31_0, hfz31_1⟩ := zn2 BK108
     go_wp2
     go_meet
     case rel => exact ⟨_, (false), zi, H', ⟨by have := HJ2.out; first | omega | exact Nat.le_refl _⟩, ⟨zr HO_5⟩, ⟨zh BK108⟩, ⟨zh BK109⟩, ⟨zs2 HB GE108 GE109⟩⟩
    rw [if_pos c25] at H
    have c25b0 : (a1_0 == a0_0) = true := beq_iff_eq.mpr c25
    have c25b1 : (a1_0 != a0_0) = false := bne_eq_false_iff_eq.mpr c25
    clear c25
    have H' := zA H
    clear H
    have hnb26 := NB109_108.out
    have hnc26 := NB108_109.out
    obtain ⟨hcz27_0, hcz27_1⟩ := zd2 BK109
    obtain ⟨hfz27_0, hfz27_1⟩ := zn2 BK109
    obtain ⟨hcz28_0, hcz28_1⟩ := zd2 BK108
    obtain ⟨hfz28_0, hfz28_1⟩ := zn2 BK108
    go_wp2
    go_meet
    case rel => exact ⟨_, (decide (a1_1 < a0_1)), zi, H', ⟨by have := HJ2.out; first | omega | exact Nat.le_refl _⟩, ⟨zr HO_5⟩, ⟨zh BK108⟩, ⟨zh BK109⟩, ⟨zs2 HB GE108 GE109⟩⟩
   case rest =>
    clear HC20
    try clear c1
    try clear c2
    try clear p2
    try clear c4
    try clear c9
    try clear c10
    try clear c11
    try clear c16
    try clear c19
    try clear c21
    try clear c21b0
    try clear c22
    try clear c25
    try clear c25b0
    try clear c25b1
    try clear c26
    try clear c29
    try clear hcz12_0 hcz12_1
    try clear hcz14_0 hcz14_1
    try clear hcz17_0 hcz17_1
    try clear hcz23_0 hcz23_1
    try clear hcz24_0 hcz24_1
    try clear hcz27_0 hcz27_1
    try clear hcz28_0 hcz28_1
    try clear hcz30_0 hcz30_1
    try clear hcz31_0 hcz31_1
    try clear hfz12_0 hfz12_1
    try clear hfz14_0 hfz14_1
    try clear hfz17_0 hfz17_1
    try clear hfz23_0 hfz23_1
    try clear hfz24_0 hfz24_1
    try clear hfz27_0 hfz27_1
    try clear hfz28_0 hfz28_1
    try clear hfz30_0 hfz30_1
    try clear hfz31_0 hfz31_1
    try clear p2
    obtain ⟨kq, x38_19, rfl, HA, HJ19, HO_5, BK108, BK109, HB⟩ := hcut
    cases kq with
    | zero => exact absurd HA.out (by simp [spec_SkyLeg.j1])
    | succ kj19 =>
     have H := HA.out
     clear HA
     simp only [spec_SkyLeg.j1] at H
     by_cases c32 : x38_19 = true
     ·subst c32
      have H1 : ((spec_SkyLeg.f kj19 a1_0 a1_1 a0_0 a0_1).bind fun t115 => (spec_SkyLeg.l0 kj19 y110 t115 (wrap64 ((t115.length : Int) - 1)))) = some r := by rw [if_pos rfl] at H; exact H
      clear H
      have H := H1
      clear H1
      replace H := zbd H; obtain ⟨t115, A33, H⟩ := H
      have H' := zA H
      clear H
      have hnb34 := NB109_108.out
      have hnc34 := NB108_109.out
      obtain ⟨hcz35_0, hcz35_1⟩ := zd2 BK109
      obtain ⟨hfz35_0, hfz35_1⟩ := zn2 BK109
      obtain ⟨hcz36_0, hcz36_1⟩ := zd2 BK108
      obtain ⟨hfz36_0, hfz36_1⟩ := zn2 BK108
      go_wp2_with (first | ((with_reducible refine gate_callee (f := 4) rfl ?_); refine zgl (N := some 41) Try.func4 #[.agg #[.int .i64 a1_0, .int .i64 a1_1], .agg #[.int .i64 a0_0, .int .i64 a0_1]] ?_; (with_reducible refine (ih kj19 (by have := HJ2.out; have := HJ19.out; omega) a1_0 a1_1 a0_0 a0_1 t115 _ A33.out).mono ?_); rintro e w37 ⟨v116, rfl, ho0, hb⟩; refine ⟨_, rfl, ?_⟩; have HO117 := zA (Kd.R_lower (Kd.R_newB (Kd.R_newB (Kd.R_new' ho0 (Kd.R_lt (zr HO_5))) (g := gb108) (o := .cells #[.int .i64 a0_0, .int .i64 a0_1] 26 (0, 0)) (zh BK108)) (g := gb109) (o := .cells #[.int .i64 a1_0, .int .i64 a1_1] 26 (0, 0)) (zh BK109)) (below_size (zs2 HB GE108 GE109))); replace HO_5 := zA (Kd.R_elder' (zr HO_5) (Kd.R_base ho0) hb); replace BK108 := zb BK108 hb; replace BK109 := zb BK109 hb; replace HB := zE (zs2 HB GE108 GE109) hb; (try clear hb); (try clear hb2); (try clear hk); (try clear hi); (try clear ho0); obtain ⟨Ao38, co38, eo38⟩ := Kd.R_slice HO117.out; subst eo38))
      go_loopg [5, 7] kj19 (fun kq v5 v7 w' => ∃ (x5_3 : List (S26)) (x7_3 : Int), v7 = .int .i64 x7_3 ∧ Aside0 (spec_SkyLeg.l0 kq x5_3 t115 x7_3 = some r) ∧ Aside0 (kq ≤ kj19) ∧ Aside0 (Kd.R k26 26 w' w.heap.size (fun k_ => some k_ ≠ ((.slice Ao38 t115.length co38) : Value).ownBlock ∧ k_ ≠ gb108 ∧ k_ ≠ gb109) v5 x5_3) ∧ Aside0 (Kd.R k26 26 w' w.heap.size (fun k_ => some k_ ≠ (v5 : Value).ownBlock ∧ k_ ≠ gb108 ∧ k_ ≠ gb109) (.slice Ao38 t115.length co38) t115) ∧ Aside0 (w'.heap[gb108]? = some (.cells #[.int .i64 a0_0, .int .i64 a0_1] 26 (0, 0))) ∧ Aside0 (w'.heap[gb109]? = some (.cells #[.int .i64 a1_0, .int .i64 a1_1] 26 (0, 0))) ∧ Aside0 (Below w.heap.size w w'))
      case atStart => exact ⟨(y110), (wrap64 ((t115.length : Int) - 1)), zi, H', ⟨Nat.le_refl _⟩, ⟨by (with_reducible repeat (first | apply Kd.R_alloc | apply Kd.R_drewN | apply Kd.R_drew)); exact Kd.R_mono HO_5.out (fun _ hk => ⟨hk.2, ⟨hk.1.1, hk.1.2⟩⟩)⟩, ⟨by (with_reducible repeat (first | apply Kd.R_alloc | apply Kd.R_drewN | apply Kd.R_drew)); exact Kd.R_mono HO117.out (fun _ hk => ⟨hk.1.1.2, ⟨hk.1.2, hk.2⟩⟩)⟩, ⟨zh BK108⟩, ⟨zh BK109⟩, ⟨zs2 HB GE108 GE109⟩⟩
      case round =>
       clear H'
       try clear c1
       try clear c2
       try clear p2
       try clear c3
       try clear c4
       try clear p6
       try clear c9
       try clear c10
       try clear c11
       try clear c16
       try clear c19
       try clear c21
       try clear c21b0
       try clear c22
       try clear c25
       try clear c25b0
       try clear c25b1
       try clear c26
       try clear c29
       try clear c32
       try clear c34
       try clear hcz12_0 hcz12_1
       try clear hcz14_0 hcz14_1
       try clear hcz17_0 hcz17_1
       try clear hcz23_0 hcz23_1
       try clear hcz24_0 hcz24_1
       try clear hcz27_0 hcz27_1
       try clear hcz28_0 hcz28_1
       try clear hcz30_0 hcz30_1
       try clear hcz31_0 hcz31_1
       try clear hcz35_0 hcz35_1
       try clear hcz36_0 hcz36_1
       try clear hfz12_0 hfz12_1
       try clear hfz14_0 hfz14_1
       try clear hfz17_0 hfz17_1
       try clear hfz23_0 hfz23_1
       try clear hfz24_0 hfz24_1
       try clear hfz27_0 hfz27_1
       try clear hfz28_0 hfz28_1
       try clear hfz30_0 hfz30_1
       try clear hfz31_0 hfz31_1
       try clear hfz35_0 hfz35_1
       try clear hfz36_0 hfz36_1
       try clear p2
       obtain ⟨x5_3, x7_3, rfl, HA, HK3, HO_5, HO_6, BK108, BK109, HB⟩ := hrel
       cases gk with
       | zero => exact absurd HA.out (by simp [spec_SkyLeg.l0])
       | succ k3 =>
        have H := HA.out
        clear HA
        simp only [spec_SkyLeg.l0] at H
        by_cases c39 : x7_3 ≥ 0
        rotate_left
        ·rw [if_neg c39] at H
         have c39b0 : decide (0 ≤ x7_3) = false := decide_eq_false c39
         clear c39
         obtain rfl := Option.some.inj H
         go_wp2
         go_ret
         exact ⟨_, ze, by (with_reducible repeat (first | apply Kd.R_alloc | apply Kd.R_drewN | apply Kd.R_drew)); exact Kd.R_mono HO_5.out (fun _ hk => trivial), zs2 HB GE108 GE109⟩
        rw [if_pos c39] at H
        have c39b0 : decide (0 ≤ x7_3) = true := decide_eq_true c39
        clear c39
        by_cases c40 : 0 ≤ x7_3
        rotate_left
        ·rw [if_neg c40] at H
         exact absurd H (by simp)
        rw [if_pos c40] at H
        have c40b0 : decide (0 ≤ x7_3) = true := decide_eq_true c40
        clear c40
        by_cases c41 : x7_3 < (t115.length : Int)
        rotate_left
        ·rw [if_neg c41] at H
         exact absurd H (by simp)
        rw [if_pos c41] at H
        have c41b0 : decide (x7_3 < (t115.length : Int)) = true := decide_eq_true c41
        clear c41
        by_cases c42 : x5_3.length < 8796093022208
        rotate_left
        ·rw [if_neg c42] at H
         exact absurd H (by simp)
        rw [if_pos c42] at H
        have LMc42 := zA c42
        clear c42
        obtain ⟨y119, hy119⟩ : ∃ y_ : List (S26), y_ = (x5_3 ++ [(⟨(rd_T26 t115 x7_3).f0, (rd_T26 t115 x7_3).f1⟩ : S26)]) := ⟨_, rfl⟩
        replace H : (spec_SkyLeg.l0 k3 y119 t115 (wrap64 (x7_3 - 1))) = some r := by first | (rw [hy119]; with_reducible exact H) | (have H2_ := (Option.bind_some _ _).symm.trans H; rw [hy119]; with_reducible exact H2_) | (have H2_ := (Option.bind_some _ _).symm.trans H; with_reducible exact H2_) | with_reducible exact H | (rw [hy119]; exact H) | exact H
        have Ny119 := zA hy119
        clear hy119
        have H' := zA H
        clear H
        have p118 : 0 ≤ (x7_3 : Int) := za
        have q118 : x7_3 < (t115.length : Int) := za
        obtain ⟨ad118, e118, hx118_0, hx118_1⟩ := at_T26 (Kd.R_reads' HO_6.out).2.2 x7_3 p118 q118
        cases e118
        replace p118 := eq_true p118
        replace q118 := eq_true q118
        go_wp2_with (first | ((with_reducible refine gate_builtin (b := .append) (xs := #[.tmp 49, .tmp 54]) rfl ?_); at_builtin; refine Kd.R_append k26 (w0 := w) w.heap.size rfl (.tmp 49) (.tmp 54) 24 26 (.agg #[(.int .i64 0), (.int .i64 0)]) 16 rfl Try.underlying24 info26 rfl (by decide) (by omega) u5 x5_3 (⟨(rd_T26 t115 x7_3).f0, (rd_T26 t115 x7_3).f1⟩ : S26) [.int .i64 ((rd_T26 t115 x7_3).f0), .int .i64 ((rd_T26 t115 x7_3).f1)] (fun k_ => some k_ ≠ (.slice (some ad118) t115.length co38 : Value).ownBlock ∧ k_ ≠ gb108 ∧ k_ ≠ gb109) (fun _ => False) rfl rfl ?aP (fun _ hk => hk.elim) ?aF ?aO ?aB ?aS ?aL ?_; (case aP => exact k26_mkM _ _ _ (⟨(rd_T26 t115 x7_3).f0, (rd_T26 t115 x7_3).f1⟩ : S26)); (case aB => exact (zs2 HB GE108 GE109)); (case aF => exact (fun k_ hk => ⟨Kd.fresh' (Kd.R_lt (zr HO_6)) k_ hk, Kd.freshB (g := gb108) (o := .cells #[.int .i64 a0_0, .int .i64 a0_1] 26 (0, 0)) (zh BK108) k_ hk, Kd.freshB (g := gb109) (o := .cells #[.int .i64 a1_0, .int .i64 a1_1] 26 (0, 0)) (zh BK109) k_ hk⟩)); (case aO => exact (zr HO_5)); (case aS => exact (below_size (zs2 HB GE108 GE109))); (case aL => have := LMc42.out; omega); intro v120 w43 ho hb hg hat; rw [← Ny119.out] at ho; have HO121 := zA (ho); replace HO_6 := zA (Kd.R_after (ok := (fun k_ => k_ ≠ gb108 ∧ k_ ≠ gb109)) (by (with_reducible repeat (first | apply Kd.R_alloc | apply Kd.R_drewN | apply Kd.R_drew)); exact Kd.R_mono HO_6.out (fun _ hk => ⟨⟨hk.2.1, hk.2.2⟩, hk.1⟩)) hg hat); replace BK108 := zA (blk_grown (g := gb108) (o := .cells #[.int .i64 a0_0, .int .i64 a0_1] 26 (0, 0)) (zh BK108) hg (Kd.R_away HO_5.out (fun _ hk => hk.2.1))); replace BK109 := zA (blk_grown (g := gb109) (o := .cells #[.int .i64 a1_0, .int .i64 a1_1] 26 (0, 0)) (zh BK109) hg (Kd.R_away HO_5.out (fun _ hk => hk.2.2))); replace HB := zA (hb); clear HO_5; clear ho hb hg hat))
        go_roundg k3
        case measure => have := HJ2.out; have := HJ19.out; have := HK3.out; omega
        case rel => exact ⟨(y119), (wrap64 (x7_3 - 1)), zi, H', ⟨by have := HJ2.out; have := HJ19.out; have := HK3.out; omega⟩, ⟨zr HO121⟩, ⟨by (with_reducible repeat (first | apply Kd.R_alloc | apply Kd.R_drewN | apply Kd.R_drew)); exact Kd.R_mono HO_6.out (fun _ hk => ⟨hk.2, ⟨hk.1.1, hk.1.2⟩⟩)⟩, ⟨zh BK108⟩, ⟨zh BK109⟩, ⟨zs2 HB GE108 GE109⟩⟩
     replace c32 := Bool.eq_false_iff.mpr c32
     subst c32
     have H1 : ((spec_l6Steps.f a0_0 a0_1 a1_0 a1_1).bind fun t122 => (if y110.length < 8796093022208 then (spec_SkyLeg.l1 kj19 (y110 ++ [(⟨a0_0, a0_1⟩ : S26)]) t122 1 a0_0 a0_1 a1_0 a1_1) else (none))) = some r := by rw [if_neg (show ¬ (false = true) by decide)] at H; exact H
     clear H
     have H := H1
     clear H1
     replace H := zbd H; obtain ⟨t122, A44, H⟩ := H
     by_cases c45 : y110.length < 8796093022208
     rotate_left
     ·rw [if_neg c45] at H
      exact absurd H (by simp)
     rw [if_pos c45] at H
     have LMc45 := zA c45
     clear c45
     obtain ⟨y123, hy123⟩ : ∃ y_ : List (S26), y_ = (y110 ++ [(⟨a0_0, a0_1⟩ : S26)]) := ⟨_, rfl⟩
     replace H : (spec_SkyLeg.l1 kj19 y123 t122 1 a0_0 a0_1 a1_0 a1_1) = some r := by first | (rw [hy123]; with_reducible exact H) | (have H2_ := (Option.bind_some _ _).symm.trans H; rw [hy123]; with_reducible exact H2_) | (have H2_ := (Option.bind_some _ _).symm.trans H; with_reducible exact H2_) | with_reducible exact H | (rw [hy123]; exact H) | exact H
     have Ny123 := zA hy123
     clear hy123
     have H' := zA H
     clear H
     have hnb46 := NB108_109.out
     have hnc46 := NB109_108.out
     obtain ⟨hcz47_0, hcz47_1⟩ := zd2 BK108
     obtain ⟨hfz47_0, hfz47_1⟩ := zn2 BK108
     obtain ⟨hcz48_0, hcz48_1⟩ := zd2 BK109
     obtain ⟨hfz48_0, hfz48_1⟩ := zn2 BK109
     go_wp2_with (first | ((with_reducible refine gate_callee (f := 11) rfl ?_); refine zgl (N := some 59) Try.func11 #[.agg #[.int .i64 a0_0, .int .i64 a0_1], .agg #[.int .i64 a1_0, .int .i64 a1_1]] ?_; (with_reducible refine (spec_l6Steps.calls a0_0 a0_1 a1_0 a1_1 t122 _ A44.out).mono ?_); rintro e w49 ⟨rfl, hb⟩; refine ⟨_, rfl, ?_⟩; replace HO_5 := zA (Kd.R_below (zr HO_5) hb); replace BK108 := zb BK108 hb; replace BK109 := zb BK109 hb; replace HB := zE (zs2 HB GE108 GE109) hb; (try clear hb); (try clear hb2); (try clear hk); (try clear hi); obtain ⟨hcz50_0, hcz50_1⟩ := zd2 BK108; obtain ⟨hfz50_0, hfz50_1⟩ := zn2 BK108) | ((with_reducible refine gate_builtin (b := .append) (xs := #[.tmp 60, .tmp 62]) rfl ?_); at_builtin; refine Kd.R_append k26 (w0 := w) w.heap.size rfl (.tmp 60) (.tmp 62) 24 26 (.agg #[(.int .i64 0), (.int .i64 0)]) 16 rfl Try.underlying24 info26 rfl (by decide) (by omega) v111 y110 (⟨a0_0, a0_1⟩ : S26) [.int .i64 a0_0, .int .i64 a0_1] (fun k_ => k_ ≠ gb108 ∧ k_ ≠ gb109) (fun _ => False) rfl rfl ?aP (fun _ hk => hk.elim) ?aF ?aO ?aB ?aS ?aL ?_; (case aP => exact k26_mkM _ _ _ (⟨a0_0, a0_1⟩ : S26)); (case aB => exact (zs2 HB GE108 GE109)); (case aF => exact (fun k_ hk => ⟨Kd.freshB (g := gb108) (o := .cells #[.int .i64 a0_0, .int .i64 a0_1] 26 (0, 0)) (zh BK108) k_ hk, Kd.freshB (g := gb109) (o := .cells #[.int .i64 a1_0, .int .i64 a1_1] 26 (0, 0)) (zh BK109) k_ hk⟩)); (case aO => exact (zr HO_5)); (case aS => exact (below_size (zs2 HB GE108 GE109))); (case aL => have := LMc45.out; omega); intro v124 w51 ho hb hg hat; rw [← Ny123.out] at ho; have HO125 := zA (ho); replace BK108 := zA (blk_grown (g := gb108) (o := .cells #[.int .i64 a0_0, .int .i64 a0_1] 26 (0, 0)) (zh BK108) hg (Kd.R_away HO_5.out (fun _ hk => hk.1))); replace BK109 := zA (blk_grown (g := gb109) (o := .cells #[.int .i64 a1_0, .int .i64 a1_1] 26 (0, 0)) (zh BK109) hg (Kd.R_away HO_5.out (fun _ hk => hk.2))); replace HB := zA (hb); clear HO_5; clear ho hb hg hat))
     go_loopg [5, 9] kj19 (fun kq v5 v9 w' => ∃ (x5_3 : List (S26)) (x9_3 : Int), v9 = .int .i64 x9_3 ∧ Aside0 (spec_SkyLeg.l1 kq x5_3 t122 x9_3 a0_0 a0_1 a1_0 a1_1 = some r) ∧ Aside0 (kq ≤ kj19) ∧ Aside0 (Kd.R k26 26 w' w.heap.size (fun k_ => k_ ≠ gb108 ∧ k_ ≠ gb109) v5 x5_3) ∧ Aside0 (w'.heap[gb108]? = some (.cells #[.int .i64 a0_0, .int .i64 a0_1] 26 (0, 0))) ∧ Aside0 (w'.heap[gb109]? = some (.cells #[.int .i64 a1_0, .int .i64 a1_1] 26 (0, 0))) ∧ Aside0 (Below w.heap.size w w'))
     case atStart => exact ⟨(y123), (1), zi, H', ⟨Nat.le_refl _⟩, ⟨zr HO125⟩, ⟨zh BK108⟩, ⟨zh BK109⟩, ⟨zs2 HB GE108 GE109⟩⟩
     case round =>
      clear H'
      try clear c1
      try clear p1
      try clear q1
      try clear hx1
      try clear c2
      try clear p2
      try clear c3
      try clear c4
      try clear p6
      try clear c9
      try clear c10
      try clear c11
      try clear p11
      try clear q11
      try clear hx11
      try clear c16
      try clear c19
      try clear c21
      try clear c21b0
      try clear c22
      try clear c25
      try clear c25b0
      try clear c25b1
      try clear c26
      try clear c29
      try clear c32
      try clear c34
      try clear c39
      try clear c39b0
      try clear c40
      try clear c40b0
      try clear c41
      try clear c41b0
      try clear c42
      try clear c45
      try clear c46
      try clear hcz12_0 hcz12_1
      try clear hcz14_0 hcz14_1
      try clear hcz17_0 hcz17_1
      try clear hcz23_0 hcz23_1
      try clear hcz24_0 hcz24_1
      try clear hcz27_0 hcz27_1
      try clear hcz28_0 hcz28_1
      try clear hcz30_0 hcz30_1
      try clear hcz31_0 hcz31_1
      try clear hcz35_0 hcz35_1
      try clear hcz36_0 hcz36_1
      try clear hcz47_0 hcz47_1
      try clear hcz48_0 hcz48_1
      try clear hcz50_0 hcz50_1
      try clear hfz12_0 hfz12_1
      try clear hfz14_0 hfz14_1
      try clear hfz17_0 hfz17_1
      try clear hfz23_0 hfz23_1
      try clear hfz24_0 hfz24_1
      try clear hfz27_0 hfz27_1
      try clear hfz28_0 hfz28_1
      try clear hfz30_0 hfz30_1
      try clear hfz31_0 hfz31_1
      try clear hfz35_0 hfz35_1
      try clear hfz36_0 hfz36_1
      try clear hfz47_0 hfz47_1
      try clear hfz48_0 hfz48_1
      try clear hfz50_0 hfz50_1
      try clear hx118_0
      try clear hx118_1
      try clear p118
      try clear p2
      try clear p6
      try clear q118
      obtain ⟨x5_3, x9_3, rfl, HA, HK3, HO_5, BK108, BK109, HB⟩ := hrel
      cases gk with
      | zero => exact absurd HA.out (by simp [spec_SkyLeg.l1])
      | succ k3 =>
       have H := HA.out
       clear HA
       simp only [spec_SkyLeg.l1] at H
       by_cases c52 : x9_3 ≤ t122
       rotate_left
       ·rw [if_neg c52] at H
        have c52b0 : decide (x9_3 ≤ t122) = false := decide_eq_false c52
        clear c52
        obtain rfl := Option.some.inj H
        go_wp2
        go_ret
        exact ⟨_, ze, by (with_reducible repeat (first | apply Kd.R_alloc | apply Kd.R_drewN | apply Kd.R_drew)); exact Kd.R_mono HO_5.out (fun _ hk => trivial), zs2 HB GE108 GE109⟩
       rw [if_pos c52] at H
       have c52b0 : decide (x9_3 ≤ t122) = true := decide_eq_true c52
       clear c52
       replace H := zbd H; obtain ⟨t126, A53, H⟩ := H
       replace H := Option.bind_eq_some_iff.mp H
       obtain ⟨t127, A540, H⟩ := H
       replace H : (if x5_3.length < 8796093022208 then (spec_SkyLeg.l1 k3 (x5_3 ++ [(⟨wrap64 (a0_0 + t126), wrap64 (a0_1 + t127)⟩ : S26)]) t122 (wrap64 (x9_3 + 1)) a0_0 a0_1 a1_0 a1_1) else (none)) = some r := H
       have A54 := zA A540
       clear A540
       by_cases c55 : x5_3.length < 8796093022208
       rotate_left
       ·rw [if_neg c55] at H
        exact absurd H (by simp)
       rw [if_pos c55] at H
       have LMc55 := zA c55
       clear c55
       obtain ⟨y128, hy128⟩ : ∃ y_ : List (S26), y_ = (x5_3 ++ [(⟨wrap64 (a0_0 + t126), wrap64 (a0_1 + t127)⟩ : S26)]) := ⟨_, rfl⟩
       replace H : (spec_SkyLeg.l1 k3 y128 t122 (wrap64 (x9_3 + 1)) a0_0 a0_1 a1_0 a1_1) = some r := by first | (rw [hy128]; with_reducible exact H) | (have H2_ := (Option.bind_some _ _).symm.trans H; rw [hy128]; with_reducible exact H2_) | (have H2_ := (Option.bind_some _ _).symm.trans H; with_reducible exact H2_) | with_reducible exact H | (rw [hy128]; exact H) | exact H
       have Ny128 := zA hy128
       clear hy128
       have H' := zA H
       clear H
       try go_wp2
       replace HO_5 := zA (Kd.R_drew HO_5.out)
       replace BK108 := zA (blk_drew BK108.out)
       replace BK109 := zA (blk_drew BK109.out)
       replace HB := zA (below_drew1 HB.out)
       refine start_ (n := 27) (S := fun w' => w'.cell? ⟨gb108, 0, none⟩ = some (.int .i64 a0_0) ∧ w'.cell? ⟨gb108, 1, none⟩ = some (.int .i64 a0_1) ∧ w'.cell? ⟨gb109, 0, none⟩ = some (.int .i64 a1_0) ∧ w'.cell? ⟨gb109, 1, none⟩ = some (.int .i64 a1_1)) (ds := []) #[F,F,F,F,F,F,F,F,F,F,F,F,F,F,F,F,F,F,F,F,F,F,F,F,F,F,F] (by kernel_rfl) rfl rfl ⟨zc0 BK108, zc1 BK108, zc0 BK109, zc1 BK109⟩ (fun hHeld => ?_); refine with_tabW spec_SkyLeg.tab16 spec_SkyLeg.bits16 (fun HT_ HW_ => ?_)
       generalize wr.drew = w56 at HO_5 BK108 BK109 HB hHeld ⊢
       refine zq HT_ 0 ?_
       refine zq HT_ 1 ?_
       refine zq HT_ 3 ?_
       refine zq HT_ 5 ?_
       refine zq HT_ 8 ?_
       refine zq HT_ 9 ?_
       refine zq HT_ 12 ?_
       refine zq HT_ 14 ?_
       refine zq HT_ 16 ?_
       refine zq HT_ 19 ?_
       refine zq HT_ 20 ?_
       refine zk4 HT_ HW_ hHeld 2 ?_
       refine zk4 HT_ HW_ hHeld 4 ?_
       refine zk4 HT_ HW_ hHeld 6 ?_
       refine zq HT_ 7 ?_
       refine zk4 HT_ HW_ hHeld 13 ?_
       refine zk4 HT_ HW_ hHeld 15 ?_
       refine zk4 HT_ HW_ hHeld 17 ?_
       refine zq HT_ 18 ?_
       refine zo HT_ 10 (fun K hK => ?_)
       refine zgo Try.func12 #[.int .i64 (wrap64 (a1_0 - a0_0)), .int .i64 x9_3, .int .i64 t122] ?_
       with_reducible refine (spec_l6Part.calls (wrap64 (a1_0 - a0_0)) x9_3 t122 t126 _ A53.out).mono ?_
       rintro e w' ⟨rfl, ⟨nd, rfl⟩⟩
       refine ⟨_, rfl, ?_⟩
       refine hK.out _ _ ⟨zc0 BK108, zc1 BK108, zc0 BK109, zc1 BK109⟩ (fun hHeld => ?_)
       clear hK K
       refine zN ?_
       refine zq HT_ 11 ?_
       refine zo HT_ 21 (fun K hK => ?_)
       refine zgo Try.func12 #[.int .i64 (wrap64 (a1_1 - a0_1)), .int .i64 x9_3, .int .i64 t122] ?_
       with_reducible refine (spec_l6Part.calls (wrap64 (a1_1 - a0_1)) x9_3 t122 t127 _ A54.out).mono ?_
       rintro e w' ⟨rfl, ⟨nd, rfl⟩⟩
       refine ⟨_, rfl, ?_⟩
       refine hK.out _ _ ⟨zc0 BK108, zc1 BK108, zc0 BK109, zc1 BK109⟩ (fun hHeld => ?_)
       clear hK K
       refine zN ?_
       refine zq HT_ 22 ?_
       refine zq HT_ 23 ?_
       refine zo HT_ 24 (fun K hK => ?_)
       refine value_ (w1 := ?_) (v := ?_) (by rfl) rfl ?_ ?_
       rotate_left 2
       ·go_simp
        constructor
        ·rfl
        ·rfl
       refine hK.out _ _ ⟨(blk_cell (blk_alloc BK108.out _) 0).trans rfl, (blk_cell (blk_alloc BK108.out _) 1).trans rfl, (blk_cell (blk_alloc BK109.out _) 0).trans rfl, (blk_cell (blk_alloc BK109.out _) 1).trans rfl⟩ (fun hHeld => ?_)
       clear hK K
       refine zN ?_
       refine zo HT_ 25 (fun K hK => ?_)
       refine Kd.R_append_step k26 (w0 := w) w.heap.size (by rfl) (.tmp 69) (.tmp 93) 24 26 (.agg #[(.int .i64 0), (.int .i64 0)]) 16 rfl Try.underlying24 info26 rfl (by decide) (by omega) u5 x5_3 (⟨wrap64 (a0_0 + t126), wrap64 (a0_1 + t127)⟩ : S26) [.int .i64 (wrap64 (a0_0 + t126)), .int .i64 (wrap64 (a0_1 + t127))] (fun k_ => k_ ≠ gb108 ∧ k_ ≠ gb109) (fun _ => False) rfl rfl ?aP (fun _ hk => hk.elim) ?aF ?aO ?aB ?aS ?aL ?_
       (case aP => exact k26_mkM _ _ _ (⟨wrap64 (a0_0 + t126), wrap64 (a0_1 + t127)⟩ : S26))
       (case aB => exact (zs2 HB GE108 GE109))
       (case aF => exact (fun k_ hk => ⟨Kd.freshB (g := gb108) (o := .cells #[.int .i64 a0_0, .int .i64 a0_1] 26 (0, 0)) (zh BK108) k_ hk, Kd.freshB (g := gb109) (o := .cells #[.int .i64 a1_0, .int .i64 a1_1] 26 (0, 0)) (zh BK109) k_ hk⟩))
       (case aO => exact (zr HO_5))
       (case aS => exact (below_size (zs2 HB GE108 GE109)))
       (case aL => have := LMc55.out; omega)
       intro v129 w57 ho hb hg hat
       rw [← Ny128.out] at ho
       have HO130 := zA (ho)
       replace BK108 := zA (blk_grown (g := gb108) (o := .cells #[.int .i64 a0_0, .int .i64 a0_1] 26 (0, 0)) (zh BK108) hg (Kd.R_away HO_5.out (fun _ hk => hk.1)))
       replace BK109 := zA (blk_grown (g := gb109) (o := .cells #[.int .i64 a1_0, .int .i64 a1_1] 26 (0, 0)) (zh BK109) hg (Kd.R_away HO_5.out (fun _ hk => hk.2)))
       replace HB := zA (hb)
       clear HO_5
       clear ho hb hg hat
       refine hK.out _ _ ⟨zc0 BK108, zc1 BK108, zc0 BK109, zc1 BK109⟩ (fun hHeld => ?_)
       clear hK K
       refine zN ?_
       refine zq HT_ 26 ?_
       refine done_ (done_of HT_.out (by kernel_rfl)) ?_
       try go_wp2
       go_roundg k3
       case measure => have := HJ2.out; have := HJ19.out; have := HK3.out; omega
       case rel => exact ⟨(y128), (wrap64 (x9_3 + 1)), zi, H', ⟨by have := HJ2.out; have := HJ19.out; have := HK3.out; omega⟩, ⟨zr HO130⟩, ⟨zh BK108⟩, ⟨zh BK109⟩, ⟨zs2 HB GE108 GE109⟩⟩
end Go.Proofs.Ytlmolfiinhblnaa.QFnExactSkyLeg
