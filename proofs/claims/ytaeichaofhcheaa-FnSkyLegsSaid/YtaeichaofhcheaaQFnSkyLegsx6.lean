/- The walk of what the law FnSkyLegs reaches: laid by a program of this session (ownprint.py). -/
import Derived.Test.YtaeichaofhcheaaQFnSkyLegsx0
import Derived.Test.YtaeichaofhcheaaQFnSkyLegsx5
namespace Go.Proofs.Ytaeichaofhcheaa.QFnSkyLegs
open Go.RowKit Go.Proofs.YtaeichaofhcheaaW.PrintWords Go.Proofs.YtaeichaofhcheaaW.PrintLast Go.Proofs.YtaeichaofhcheaaW.PrintMore Go.Proofs.Ytaeichaofhcheaa.Z
attribute [local go_sem] max2_int min2_int max_two min_two max_three min_three max_four min_four zdn   -- for this text's walks alone
set_option linter.unusedVariables false
set_option linter.unusedSimpArgs false
mutual
def spec_SkyLeg.j0 : Nat → List (S24) → Bool → Int → Int → Int → Int → Option ((List (S24)))
 | 0, _, _, _, _, _, _ => none
 | k + 1, x5, x18, x171000, x171001, x172000, x172001 => if x18 = true then (some x5) else (if x172000 < x171000 then (spec_SkyLeg.j1 k x5 true x171000 x171001 x172000 x172001) else (if x172000 = x171000 then (spec_SkyLeg.j1 k x5 (decide (x172001 < x171001)) x171000 x171001 x172000 x172001) else (spec_SkyLeg.j1 k x5 false x171000 x171001 x172000 x172001)))
def spec_SkyLeg.j1 : Nat → List (S24) → Bool → Int → Int → Int → Int → Option ((List (S24)))
 | 0, _, _, _, _, _, _ => none
 | k + 1, x5, x38, x171000, x171001, x172000, x172001 => if x38 = true then ((spec_SkyLeg.f k x172000 x172001 x171000 x171001).bind fun t177 => (spec_SkyLeg.l0 k x5 t177 (wrap64 ((t177.length : Int) - 1)))) else ((spec_l6Steps.f x171000 x171001 x172000 x172001).bind fun t184 => (if x5.length < 8796093022208 then (spec_SkyLeg.l1 k (x5 ++ [(⟨x171000, x171001⟩ : S24)]) t184 1 x171000 x171001 x172000 x172001) else (none)))
def spec_SkyLeg.l0 : Nat → List (S24) → List (S24) → Int → Option ((List (S24)))
 | 0, _, _, _ => none
 | k + 1, x5, x6, x7 => if x7 ≥ 0 then (if 0 ≤ x7 then (if x7 < (x6.length : Int) then (if x5.length < 8796093022208 then (spec_SkyLeg.l0 k (x5 ++ [(⟨(rd_T24 x6 x7).f0, (rd_T24 x6 x7).f1⟩ : S24)]) x6 (wrap64 (x7 - 1))) else (none)) else (none)) else (none)) else (some x5)
def spec_SkyLeg.l1 : Nat → List (S24) → Int → Int → Int → Int → Int → Int → Option ((List (S24)))
 | 0, _, _, _, _, _, _, _ => none
 | k + 1, x5, x8, x9, x171000, x171001, x172000, x172001 => if x9 ≤ x8 then ((spec_l6Part.f (wrap64 (x172000 - x171000)) x9 x8).bind fun t188 => ((spec_l6Part.f (wrap64 (x172001 - x171001)) x9 x8).bind fun t189 => (if x5.length < 8796093022208 then (spec_SkyLeg.l1 k (x5 ++ [(⟨wrap64 (x171000 + t188), wrap64 (x171001 + t189)⟩ : S24)]) x8 (wrap64 (x9 + 1)) x171000 x171001 x172000 x172001) else (none)))) else (some x5)
def spec_SkyLeg.f : Nat → Int → Int → Int → Int → Option ((List (S24)))
 | 0, _, _, _, _ => none
 | k + 1, a0_0, a0_1, a1_0, a1_1 => (some (([] : List (S24)) : List (S24))).bind fun y172 => ((spec_l6Inside.f a0_0 a0_1).bind fun t175 => (if t175 = true then ((spec_l6Inside.f a1_0 a1_1).bind fun t176 => (spec_SkyLeg.j0 k y172 (!t176) a0_0 a0_1 a1_0 a1_1)) else (spec_SkyLeg.j0 k y172 true a0_0 a0_1 a1_0 a1_1)))
end
def spec_SkyLeg.T16 : Bool × List (List Nat × List Nat) := (true, [([], []), ([], []), ([1], [1]), ([], []), ([3], [3]), ([], []), ([5], [5]), ([4, 6], [4, 6]), ([], []), ([], []), ([7, 8, 9], [7, 8, 9]), ([2, 10], [2, 10]), ([], []), ([12], [12]), ([], []), ([14], [14]), ([], []), ([16], [16]), ([15, 17], [15, 17]), ([], []), ([], []), ([18, 19, 20, 10], [18, 19, 20]), ([13, 21], [13, 21]), ([11, 22], [11, 22]), ([23], [23]), ([0, 24, 21], [0, 24]), ([25, 25, 0, 1, 2, 3, 4, 5, 6, 7, 8, 9, 10, 11, 12, 13, 14, 15, 16, 17, 18, 19, 20, 21, 22, 23, 24, 25], [0, 25])])
def spec_SkyLeg.B16 : List Nat := [0, 0, 2, 0, 8, 0, 32, 120, 0, 0, 1016, 2046, 0, 4096, 0, 16384, 0, 65536, 245760, 0, 0, 2082808, 4192248, 8388606, 16777214, 33554431, 67108863]
theorem spec_SkyLeg.tab16 : rtab .any (opsOf Try.f7 16) = spec_SkyLeg.T16 := by kernel_rfl
theorem spec_SkyLeg.bits16 : waitsOk spec_SkyLeg.T16.2 spec_SkyLeg.B16 = true := by kernel_rfl
set_option maxHeartbeats 8000000 in
set_option maxRecDepth 100000 in
theorem spec_SkyLeg.calls (k : Nat) : ∀ (a0_0 : Int) (a0_1 : Int) (a1_0 : Int) (a1_1 : Int) (r : List (S24)) (w : World) (h : spec_SkyLeg.f k a0_0 a0_1 a1_0 a1_1 = some r),
 Calls Try.prog 7 #[.agg #[.int .i64 a0_0, .int .i64 a0_1], .agg #[.int .i64 a1_0, .int .i64 a1_1]] w fun e w' => ∃ v0_ : Value, e = .returned (v0_) ∧ Kd.R k24 24 w' w.heap.size (fun _ => True) v0_ r ∧ Below w.heap.size w w' := by
 induction k using Nat.strongRecOn with
 | _ k ih =>
 intro a0_0 a0_1 a1_0 a1_1 r w h
 cases k with
 | zero => exact absurd h (by simp [spec_SkyLeg.f])
 | succ k =>
 simp only [spec_SkyLeg.f] at h
 have hu24 := Try.underlying24
 have HB := zA (Below.refl w.heap.size w)
 have H : ((some (([] : List (S24)) : List (S24))).bind fun y172 => ((spec_l6Inside.f a0_0 a0_1).bind fun t175 => (if t175 = true then ((spec_l6Inside.f a1_0 a1_1).bind fun t176 => (spec_SkyLeg.j0 k y172 (!t176) a0_0 a0_1 a1_0 a1_1)) else (spec_SkyLeg.j0 k y172 true a0_0 a0_1 a1_0 a1_1)))) = some r := h
 clear h
 obtain ⟨y172, hy172⟩ : ∃ y_ : List (S24), y_ = (([] : List (S24))) := ⟨_, rfl⟩
 replace H : ((spec_l6Inside.f a0_0 a0_1).bind fun t175 => (if t175 = true then ((spec_l6Inside.f a1_0 a1_1).bind fun t176 => (spec_SkyLeg.j0 k y172 (!t176) a0_0 a0_1 a1_0 a1_1)) else (spec_SkyLeg.j0 k y172 true a0_0 a0_1 a1_0 a1_1))) = some r := by first | (rw [hy172]; with_reducible exact H) | (have H2_ := (Option.bind_some _ _).symm.trans H; rw [hy172]; with_reducible exact H2_) | (have H2_ := (Option.bind_some _ _).symm.trans H; with_reducible exact H2_) | with_reducible exact H | (rw [hy172]; exact H) | exact H
 have Ny172 := zA hy172
 clear hy172
 have HC3 := zA H
 clear H
 go_enter Try.func7, Try.ntmps7
 go_upto_region 2 with (first | ((with_reducible refine gate_dst (N := 2) rfl ?_); refine zbx 2 #[.int .i64 a0_0, .int .i64 a0_1] 24 ?_; intro gb170 hg w4 hbox hb; have BK170 := zA hbox; have GW170 := zgs hg (zs0 HB); have GE170 := zgs hg (zs0 HB); replace HB := zE (zs0 HB) hb; clear hb hbox hg) | ((with_reducible refine gate_dst (N := 3) rfl ?_); refine zbx 3 #[.int .i64 a1_0, .int .i64 a1_1] 24 ?_; intro gb171 hg w5 hbox hb; have BK171 := zA hbox; have GW171 := zgs hg (zs1 HB GE170); have GE171 := zgs hg (zs1 HB GE170); have NB170_171 := zne hg BK170; have NB171_170 := znf hg BK170; replace BK170 := zb BK170 hb; replace HB := zE (zs1 HB GE170) hb; clear hb hbox hg) | ((with_reducible refine gate_dst (N := 10) rfl ?_); refine Kd.R_lit k24 _ 24 ?hg (N := 10) ?hd (xs := ([] : List (S24))) (inner := []) (ok := fun _ => True) (okp := fun _ => True) ?hr ?hp (fun _ hk => hk) trivial (Below.refl _ _) (Nat.le_refl _) (by simp) ?_; (case hd => rfl); (case hg => rfl); (case hr => first | (go_simp; done) | (go_simp; rfl)); (case hp => exact (Reps.none _ _)); intro v173 w6 ho7 hb hg_ hnew_; clear hg_ hnew_; (first | rw [← Ny172.out] at ho7 | (simp only [Int.reduceToNat] at ho7; rw [← Ny172.out] at ho7)); have HO174 := zA (Kd.R_lower (Kd.R_newB (Kd.R_newB ho7 (g := gb170) (o := .cells #[.int .i64 a0_0, .int .i64 a0_1] 24 (0, 0)) (zh BK170)) (g := gb171) (o := .cells #[.int .i64 a1_0, .int .i64 a1_1] 24 (0, 0)) (zh BK171)) (below_size (zs2 HB GE170 GE171))); replace BK170 := zb BK170 hb; replace BK171 := zb BK171 hb; replace HB := zE (zs2 HB GE170 GE171) hb; clear hb ho7))
 (try simp only [Act.put, List.setIfInBounds_toArray, List.set_cons_zero, List.set_cons_succ])
 go_cut [18] (fun v18 wc => ∃ (kq : Nat) (x18_2 : Bool), v18 = .bool x18_2 ∧ Aside0 (spec_SkyLeg.j0 kq y172 x18_2 a0_0 a0_1 a1_0 a1_1 = some r) ∧ Aside0 (kq ≤ k) ∧ Aside0 (Kd.R k24 24 wc w.heap.size (fun k_ => k_ ≠ gb170 ∧ k_ ≠ gb171) v173 y172) ∧ Aside0 (wc.heap[gb170]? = some (.cells #[.int .i64 a0_0, .int .i64 a0_1] 24 (0, 0))) ∧ Aside0 (wc.heap[gb171]? = some (.cells #[.int .i64 a1_0, .int .i64 a1_1] 24 (0, 0))) ∧ Aside0 (Below w.heap.size w wc))
 case first =>
  have H := HC3.out
  clear HC3
  replace H := zbd H; obtain ⟨t175, A8, H⟩ := H
  by_cases c9 : t175 = true
  rotate_left
  ·replace c9 := Bool.eq_false_iff.mpr c9
   subst c9
   have H1 : (spec_SkyLeg.j0 k y172 true a0_0 a0_1 a1_0 a1_1) = some r := by rw [if_neg (show ¬ (false = true) by decide)] at H; exact H
   clear H
   have H := H1
   clear H1
   have H' := zA H
   clear H
   have hnb16 := NB170_171.out
   have hnc16 := NB171_170.out
   obtain ⟨hcz17_0, hcz17_1⟩ := zd2 BK170
   obtain ⟨hfz17_0, hfz17_1⟩ := zn2 BK170
   go_wp2_with (first | ((with_reducible refine gate_callee (f := 14) rfl ?_); refine zgl (N := some 12) Try.func14 #[.agg #[.int .i64 a0_0, .int .i64 a0_1]] ?_; (with_reducible refine (spec_l6Inside.calls a0_0 a0_1 false _ A8.out).mono ?_); rintro e w18 ⟨rfl, hb⟩; refine ⟨_, rfl, ?_⟩; replace HO174 := zA (Kd.R_below (zr HO174) hb); replace BK170 := zb BK170 hb; replace BK171 := zb BK171 hb; replace HB := zE (zs2 HB GE170 GE171) hb; (try clear hb); (try clear hb2); (try clear hk); (try clear hi)))
   go_meet
   case rel => exact ⟨_, (true), zi, H', ⟨by first | omega | exact Nat.le_refl _⟩, ⟨by (with_reducible repeat (first | apply Kd.R_alloc | apply Kd.R_drewN | apply Kd.R_drew)); exact Kd.R_mono HO174.out (fun _ hk => ⟨hk.1.2, hk.2⟩)⟩, ⟨zh BK170⟩, ⟨zh BK171⟩, ⟨zs2 HB GE170 GE171⟩⟩
  subst c9
  have H1 : ((spec_l6Inside.f a1_0 a1_1).bind fun t176 => (spec_SkyLeg.j0 k y172 (!t176) a0_0 a0_1 a1_0 a1_1)) = some r := by rw [if_pos rfl] at H; exact H
  clear H
  have H := H1
  clear H1
  replace H := zbd H; obtain ⟨t176, A10, H⟩ := H
  have H' := zA H
  clear H
  have hnb11 := NB170_171.out
  have hnc11 := NB171_170.out
  obtain ⟨hcz12_0, hcz12_1⟩ := zd2 BK170
  obtain ⟨hfz12_0, hfz12_1⟩ := zn2 BK170
  go_wp2_with (first | ((with_reducible refine gate_callee (f := 14) rfl ?_); refine zgl (N := some 12) Try.func14 #[.agg #[.int .i64 a0_0, .int .i64 a0_1]] ?_; (with_reducible refine (spec_l6Inside.calls a0_0 a0_1 true _ A8.out).mono ?_); rintro e w13 ⟨rfl, hb⟩; refine ⟨_, rfl, ?_⟩; replace HO174 := zA (Kd.R_below (zr HO174) hb); replace BK170 := zb BK170 hb; replace BK171 := zb BK171 hb; replace HB := zE (zs2 HB GE170 GE171) hb; (try clear hb); (try clear hb2); (try clear hk); (try clear hi); obtain ⟨hcz14_0, hcz14_1⟩ := zd2 BK171; obtain ⟨hfz14_0, hfz14_1⟩ := zn2 BK171) | (go_at_call 14; (with_reducible refine (spec_l6Inside.calls a1_0 a1_1 t176 _ A10.out).mono ?_); rintro e w15 ⟨rfl, hb⟩; replace HO174 := zA (Kd.R_below (zr HO174) hb); replace BK170 := zb BK170 hb; replace BK171 := zb BK171 hb; replace HB := zE (zs2 HB GE170 GE171) hb; (try clear hb); (try clear hb2); (try clear hk); (try clear hi)))
  go_meet
  case rel => exact ⟨_, (!t176), zi, H', ⟨by first | omega | exact Nat.le_refl _⟩, ⟨by (with_reducible repeat (first | apply Kd.R_alloc | apply Kd.R_drewN | apply Kd.R_drew)); exact Kd.R_mono HO174.out (fun _ hk => ⟨hk.1.2, hk.2⟩)⟩, ⟨zh BK170⟩, ⟨zh BK171⟩, ⟨zs2 HB GE170 GE171⟩⟩
 case rest =>
  clear HC3
  try clear c1
  try clear p2
  try clear c7
  try clear c9
  try clear c11
  try clear c14
  try clear c16
  try clear hcz12_0 hcz12_1
  try clear hcz14_0 hcz14_1
  try clear hcz17_0 hcz17_1
  try clear hfz12_0 hfz12_1
  try clear hfz14_0 hfz14_1
  try clear hfz17_0 hfz17_1
  obtain ⟨kq, x18_2, rfl, HA, HJ2, HO_5, BK170, BK171, HB⟩ := hcut
  cases kq with
  | zero => exact absurd HA.out (by simp [spec_SkyLeg.j0])
  | succ kj2 =>
   have H := HA.out
   clear HA
   simp only [spec_SkyLeg.j0] at H
   by_cases c19 : x18_2 = true
   ·subst c19
    have H1 : (some y172) = some r := by rw [if_pos rfl] at H; exact H
    clear H
    have H := H1
    clear H1
    obtain rfl := Option.some.inj H
    go_wp2
    go_ret
    exact ⟨_, ze, by (with_reducible repeat (first | apply Kd.R_alloc | apply Kd.R_drewN | apply Kd.R_drew)); exact Kd.R_mono HO_5.out (fun _ hk => trivial), zs2 HB GE170 GE171⟩
   replace c19 := Bool.eq_false_iff.mpr c19
   subst c19
   have H1 : (if a1_0 < a0_0 then (spec_SkyLeg.j1 kj2 y172 true a0_0 a0_1 a1_0 a1_1) else (if a1_0 = a0_0 then (spec_SkyLeg.j1 kj2 y172 (decide (a1_1 < a0_1)) a0_0 a0_1 a1_0 a1_1) else (spec_SkyLeg.j1 kj2 y172 false a0_0 a0_1 a1_0 a1_1))) = some r := by rw [if_neg (show ¬ (false = true) by decide)] at H; exact H
   clear H
   have H := H1
   clear H1
   have HC20 := zA H
   clear H
   go_upto_region 4 with (fail)
   go_cut [38] (fun v38 wc => ∃ (kq : Nat) (x38_19 : Bool), v38 = .bool x38_19 ∧ Aside0 (spec_SkyLeg.j1 kq y172 x38_19 a0_0 a0_1 a1_0 a1_1 = some r) ∧ Aside0 (kq ≤ kj2) ∧ Aside0 (Kd.R k24 24 wc w.heap.size (fun k_ => k_ ≠ gb170 ∧ k_ ≠ gb171) v173 y172) ∧ Aside0 (wc.heap[gb170]? = some (.cells #[.int .i64 a0_0, .int .i64 a0_1] 24 (0, 0))) ∧ Aside0 (wc.heap[gb171]? = some (.cells #[.int .i64 a1_0, .int .i64 a1_1] 24 (0, 0))) ∧ Aside0 (Below w.heap.size w wc))
   case first =>
    have H := HC20.out
    clear HC20
    by_cases c21 : a1_0 < a0_0
    ·rw [if_pos c21] at H
     have c21b0 : decide (a1_0 < a0_0) = true := decide_eq_true c21
     clear c21
     (first | rw [c21b0] | (simp only [i64_w, i32_w]; rw [c21b0]) | skip)
     have H' := zA H
     clear H
     have hnb22 := NB171_170.out
     have hnc22 := NB170_171.out
     obtain ⟨hcz23_0, hcz23_1⟩ := zd2 BK171
     obtain ⟨hfz23_0, hfz23_1⟩ := zn2 BK171
     obtain ⟨hcz24_0, hcz24_1⟩ := zd2 BK170
     obtain ⟨hfz24_0, hfz24_1⟩ := zn2 BK170
     go_wp2
     go_meet
     case rel => exact ⟨_, (true), zi, H', ⟨by have := HJ2.out; first | omega | exact Nat.le_refl _⟩, ⟨zr HO_5⟩, ⟨zh BK170⟩, ⟨zh BK171⟩, ⟨zs2 HB GE170 GE171⟩⟩
    rw [if_neg c21] at H
    have c21b0 : decide (a1_0 < a0_0) = false := decide_eq_false c21
    clear c21
    (first | rw [c21b0] | (simp only [i64_w, i32_w]; rw [c21b0]) | skip)
    by_cases c25 : a1_0 = a0_0
    rotate_left
    ·rw [if_neg c25] at H
     have c25b0 : (a1_0 == a0_0) = false := beq_eq_false_iff_ne.mpr c25
     have c25b1 : (a1_0 != a0_0) = true := bne_iff_ne.mpr c25
     have H' := zA H
     clear H
     have hnb29 := NB171_170.out
     have hnc29 := NB170_171.out
     obtain ⟨hcz30_0, hcz30_1⟩ := zd2 BK171
     obtain ⟨hfz30_0, hfz30_1⟩ := zn2 BK171
     obtain ⟨hcz31_0, hcz31_1⟩ := zd2 BK170
     obtain ⟨hfz31_0, hfz31_1⟩ := zn2 BK170
     go_wp2
     go_meet
     case rel => exact ⟨_, (false), zi, H', ⟨by have := HJ2.out; first | omega | exact Nat.le_refl _⟩, ⟨zr HO_5⟩, ⟨zh BK170⟩, ⟨zh BK171⟩, ⟨zs2 HB GE170 GE171⟩⟩
    rw [if_pos c25] at H
    have c25b0 : (a1_0 == a0_0) = true := beq_iff_eq.mpr c25
    have c25b1 : (a1_0 != a0_0) = false := bne_eq_false_iff_eq.mpr c25
    clear c25
    have H' := zA H
    clear H
    have hnb26 := NB171_170.out
    have hnc26 := NB170_171.out
    obtain ⟨hcz27_0, hcz27_1⟩ := zd2 BK171
    obtain ⟨hfz27_0, hfz27_1⟩ := zn2 BK171
    obtain ⟨hcz28_0, hcz28_1⟩ := zd2 BK170
    obtain ⟨hfz28_0, hfz28_1⟩ := zn2 BK170
    go_wp2
    go_meet
    case rel => exact ⟨_, (decide (a1_1 < a0_1)), zi, H', ⟨by have := HJ2.out; first | omega | exact Nat.le_refl _⟩, ⟨zr HO_5⟩, ⟨zh BK170⟩, ⟨zh BK171⟩, ⟨zs2 HB GE170 GE171⟩⟩
   case rest =>
    clear HC20
    try clear c1
    try clear c2
    try clear p2
    try clear c7
    try clear c9
    try clear c11
    try clear c14
    try clear c16
    try clear c19
    try clear c21
    try clear c21b0
    try clear c22
    try clear c25
    try clear c25b0
    try clear c25b1
    try clear c26
    try clear c29
    try clear hcz12_0 hcz12_1
    try clear hcz14_0 hcz14_1
    try clear hcz17_0 hcz17_1
    try clear hcz23_0 hcz23_1
    try clear hcz24_0 hcz24_1
    try clear hcz27_0 hcz27_1
    try clear hcz28_0 hcz28_1
    try clear hcz30_0 hcz30_1
    try clear hcz31_0 hcz31_1
    try clear hfz12_0 hfz12_1
    try clear hfz14_0 hfz14_1
    try clear hfz17_0 hfz17_1
    try clear hfz23_0 hfz23_1
    try clear hfz24_0 hfz24_1
    try clear hfz27_0 hfz27_1
    try clear hfz28_0 hfz28_1
    try clear hfz30_0 hfz30_1
    try clear hfz31_0 hfz31_1
    try clear p2
    obtain ⟨kq, x38_19, rfl, HA, HJ19, HO_5, BK170, BK171, HB⟩ := hcut
    cases kq with
    | zero => exact absurd HA.out (by simp [spec_SkyLeg.j1])
    | succ kj19 =>
     have H := HA.out
     clear HA
     simp only [spec_SkyLeg.j1] at H
     by_cases c32 : x38_19 = true
     ·subst c32
      have H1 : ((spec_SkyLeg.f kj19 a1_0 a1_1 a0_0 a0_1).bind fun t177 => (spec_SkyLeg.l0 kj19 y172 t177 (wrap64 ((t177.length : Int) - 1)))) = some r := by rw [if_pos rfl] at H; exact H
      clear H
      have H := H1
      clear H1
      replace H := zbd H; obtain ⟨t177, A33, H⟩ := H
      have H' := zA H
      clear H
      have hnb34 := NB171_170.out
      have hnc34 := NB170_171.out
      obtain ⟨hcz35_0, hcz35_1⟩ := zd2 BK171
      obtain ⟨hfz35_0, hfz35_1⟩ := zn2 BK171
      obtain ⟨hcz36_0, hcz36_1⟩ := zd2 BK170
      obtain ⟨hfz36_0, hfz36_1⟩ := zn2 BK170
      go_wp2_with (first | ((with_reducible refine gate_callee (f := 7) rfl ?_); refine zgl (N := some 41) Try.func7 #[.agg #[.int .i64 a1_0, .int .i64 a1_1], .agg #[.int .i64 a0_0, .int .i64 a0_1]] ?_; (with_reducible refine (ih kj19 (by have := HJ2.out; have := HJ19.out; omega) a1_0 a1_1 a0_0 a0_1 t177 _ A33.out).mono ?_); rintro e w37 ⟨v178, rfl, ho0, hb⟩; refine ⟨_, rfl, ?_⟩; have HO179 := zA (Kd.R_lower (Kd.R_newB (Kd.R_newB (Kd.R_new' ho0 (Kd.R_lt (zr HO_5))) (g := gb170) (o := .cells #[.int .i64 a0_0, .int .i64 a0_1] 24 (0, 0)) (zh BK170)) (g := gb171) (o := .cells #[.int .i64 a1_0, .int .i64 a1_1] 24 (0, 0)) (zh BK171)) (below_size (zs2 HB GE170 GE171))); replace HO_5 := zA (Kd.R_elder' (zr HO_5) (Kd.R_base ho0) hb); replace BK170 := zb BK170 hb; replace BK171 := zb BK171 hb; replace HB := zE (zs2 HB GE170 GE171) hb; (try clear hb); (try clear hb2); (try clear hk); (try clear hi); (try clear ho0); obtain ⟨Ao38, co38, eo38⟩ := Kd.R_slice HO179.out; subst eo38))
      go_loopg [5, 7] kj19 (fun kq v5 v7 w' => ∃ (x5_3 : List (S24)) (x7_3 : Int), v7 = .int .i64 x7_3 ∧ Aside0 (spec_SkyLeg.l0 kq x5_3 t177 x7_3 = some r) ∧ Aside0 (kq ≤ kj19) ∧ Aside0 (Kd.R k24 24 w' w.heap.size (fun k_ => some k_ ≠ ((.slice Ao38 t177.length co38) : Value).ownBlock ∧ k_ ≠ gb170 ∧ k_ ≠ gb171) v5 x5_3) ∧ Aside0 (Kd.R k24 24 w' w.heap.size (fun k_ => some k_ ≠ (v5 : Value).ownBlock ∧ k_ ≠ gb170 ∧ k_ ≠ gb171) (.slice Ao38 t177.length co38) t177) ∧ Aside0 (w'.heap[gb170]? = some (.cells #[.int .i64 a0_0, .int .i64 a0_1] 24 (0, 0))) ∧ Aside0 (w'.heap[gb171]? = some (.cells #[.int .i64 a1_0, .int .i64 a1_1] 24 (0, 0))) ∧ Aside0 (Below w.heap.size w w'))
      case atStart => exact ⟨(y172), (wrap64 ((t177.length : Int) - 1)), zi, H', ⟨Nat.le_refl _⟩, ⟨by (with_reducible repeat (first | apply Kd.R_alloc | apply Kd.R_drewN | apply Kd.R_drew)); exact Kd.R_mono HO_5.out (fun _ hk => ⟨hk.2, ⟨hk.1.1, hk.1.2⟩⟩)⟩, ⟨by (with_reducible repeat (first | apply Kd.R_alloc | apply Kd.R_drewN | apply Kd.R_drew)); exact Kd.R_mono HO179.out (fun _ hk => ⟨hk.1.1.2, ⟨hk.1.2, hk.2⟩⟩)⟩, ⟨zh BK170⟩, ⟨zh BK171⟩, ⟨zs2 HB GE170 GE171⟩⟩
      case round =>
       clear H'
       try clear c1
       try clear c2
       try clear p2
       try clear c3
       try clear p6
       try clear c7
       try clear c9
       try clear c11
       try clear c14
       try clear c16
       try clear c19
       try clear c21
       try clear c21b0
       try clear c22
       try clear c25
       try clear c25b0
       try clear c25b1
       try clear c26
       try clear c29
       try clear c32
       try clear c34
       try clear hcz12_0 hcz12_1
       try clear hcz14_0 hcz14_1
       try clear hcz17_0 hcz17_1
       try clear hcz23_0 hcz23_1
       try clear hcz24_0 hcz24_1
       try clear hcz27_0 hcz27_1
       try clear hcz28_0 hcz28_1
       try clear hcz30_0 hcz30_1
       try clear hcz31_0 hcz31_1
       try clear hcz35_0 hcz35_1
       try clear hcz36_0 hcz36_1
       try clear hfz12_0 hfz12_1
       try clear hfz14_0 hfz14_1
       try clear hfz17_0 hfz17_1
       try clear hfz23_0 hfz23_1
       try clear hfz24_0 hfz24_1
       try clear hfz27_0 hfz27_1
       try clear hfz28_0 hfz28_1
       try clear hfz30_0 hfz30_1
       try clear hfz31_0 hfz31_1
       try clear hfz35_0 hfz35_1
       try clear hfz36_0 hfz36_1
       try clear p2
       obtain ⟨x5_3, x7_3, rfl, HA, HK3, HO_5, HO_6, BK170, BK171, HB⟩ := hrel
       cases gk with
       | zero => exact absurd HA.out (by simp [spec_SkyLeg.l0])
       | succ k3 =>
        have H := HA.out
        clear HA
        simp only [spec_SkyLeg.l0] at H
        by_cases c39 : x7_3 ≥ 0
        rotate_left
        ·rw [if_neg c39] at H
         have c39b0 : decide (0 ≤ x7_3) = false := decide_eq_false c39
         clear c39
         obtain rfl := Option.some.inj H
         go_wp2
         go_ret
         exact ⟨_, ze, by (with_reducible repeat (first | apply Kd.R_alloc | apply Kd.R_drewN | apply Kd.R_drew)); exact Kd.R_mono HO_5.out (fun _ hk => trivial), zs2 HB GE170 GE171⟩
        rw [if_pos c39] at H
        have c39b0 : decide (0 ≤ x7_3) = true := decide_eq_true c39
        clear c39
        by_cases c40 : 0 ≤ x7_3
        rotate_left
        ·rw [if_neg c40] at H
         exact absurd H (by simp)
        rw [if_pos c40] at H
        have c40b0 : decide (0 ≤ x7_3) = true := decide_eq_true c40
        clear c40
        by_cases c41 : x7_3 < (t177.length : Int)
        rotate_left
        ·rw [if_neg c41] at H
         exact absurd H (by simp)
        rw [if_pos c41] at H
        have c41b0 : decide (x7_3 < (t177.length : Int)) = true := decide_eq_true c41
        clear c41
        by_cases c42 : x5_3.length < 8796093022208
        rotate_left
        ·rw [if_neg c42] at H
         exact absurd H (by simp)
        rw [if_pos c42] at H
        have LMc42 := zA c42
        clear c42
        obtain ⟨y181, hy181⟩ : ∃ y_ : List (S24), y_ = (x5_3 ++ [(⟨(rd_T24 t177 x7_3).f0, (rd_T24 t177 x7_3).f1⟩ : S24)]) := ⟨_, rfl⟩
        replace H : (spec_SkyLeg.l0 k3 y181 t177 (wrap64 (x7_3 - 1))) = some r := by first | (rw [hy181]; with_reducible exact H) | (have H2_ := (Option.bind_some _ _).symm.trans H; rw [hy181]; with_reducible exact H2_) | (have H2_ := (Option.bind_some _ _).symm.trans H; with_reducible exact H2_) | with_reducible exact H | (rw [hy181]; exact H) | exact H
        have Ny181 := zA hy181
        clear hy181
        have H' := zA H
        clear H
        have p180 : 0 ≤ (x7_3 : Int) := za
        have q180 : x7_3 < (t177.length : Int) := za
        obtain ⟨ad180, e180, hx180_0, hx180_1⟩ := at_T24 (Kd.R_reads' HO_6.out).2.2 x7_3 p180 q180
        cases e180
        replace p180 := eq_true p180
        replace q180 := eq_true q180
        go_wp2_with (first | ((with_reducible refine gate_builtin (b := .append) (xs := #[.tmp 49, .tmp 54]) rfl ?_); at_builtin; refine Kd.R_append k24 (w0 := w) w.heap.size rfl (.tmp 49) (.tmp 54) 27 24 (.agg #[(.int .i64 0), (.int .i64 0)]) 16 rfl Try.underlying27 info24 rfl (by decide) (by omega) u5 x5_3 (⟨(rd_T24 t177 x7_3).f0, (rd_T24 t177 x7_3).f1⟩ : S24) [.int .i64 ((rd_T24 t177 x7_3).f0), .int .i64 ((rd_T24 t177 x7_3).f1)] (fun k_ => some k_ ≠ (.slice (some ad180) t177.length co38 : Value).ownBlock ∧ k_ ≠ gb170 ∧ k_ ≠ gb171) (fun _ => False) rfl rfl ?aP (fun _ hk => hk.elim) ?aF ?aO ?aB ?aS ?aL ?_; (case aP => exact k24_mkM _ _ _ (⟨(rd_T24 t177 x7_3).f0, (rd_T24 t177 x7_3).f1⟩ : S24)); (case aB => exact (zs2 HB GE170 GE171)); (case aF => exact (fun k_ hk => ⟨Kd.fresh' (Kd.R_lt (zr HO_6)) k_ hk, Kd.freshB (g := gb170) (o := .cells #[.int .i64 a0_0, .int .i64 a0_1] 24 (0, 0)) (zh BK170) k_ hk, Kd.freshB (g := gb171) (o := .cells #[.int .i64 a1_0, .int .i64 a1_1] 24 (0, 0)) (zh BK171) k_ hk⟩)); (case aO => exact (zr HO_5)); (case aS => exact (below_size (zs2 HB GE170 GE171))); (case aL => have := LMc42.out; omega); intro v182 w43 ho hb hg hat; rw [← Ny181.out] at ho; have HO183 := zA (ho); replace HO_6 := zA (Kd.R_after (ok := (fun k_ => k_ ≠ gb170 ∧ k_ ≠ gb171)) (by (with_reducible repeat (first | apply Kd.R_alloc | apply Kd.R_drewN | apply Kd.R_drew)); exact Kd.R_mono HO_6.out (fun _ hk => ⟨⟨hk.2.1, hk.2.2⟩, hk.1⟩)) hg hat); replace BK170 := zA (blk_grown (g := gb170) (o := .cells #[.int .i64 a0_0, .int .i64 a0_1] 24 (0, 0)) (zh BK170) hg (Kd.R_away HO_5.out (fun _ hk => hk.2.1))); replace BK171 := zA (blk_grown (g := gb171) (o := .cells #[.int .i64 a1_0, .int .i64 a1_1] 24 (0, 0)) (zh BK171) hg (Kd.R_away HO_5.out (fun _ hk => hk.2.2))); replace HB := zA (hb); clear HO_5; clear ho hb hg hat))
        go_roundg k3
        case measure => have := HJ2.out; have := HJ19.out; have := HK3.out; omega
        case rel => exact ⟨(y181), (wrap64 (x7_3 - 1)), zi, H', ⟨by have := HJ2.out; have := HJ19.out; have := HK3.out; omega⟩, ⟨zr HO183⟩, ⟨by (with_reducible repeat (first | apply Kd.R_alloc | apply Kd.R_drewN | apply Kd.R_drew)); exact Kd.R_mono HO_6.out (fun _ hk => ⟨hk.2, ⟨hk.1.1, hk.1.2⟩⟩)⟩, ⟨zh BK170⟩, ⟨zh BK171⟩, ⟨zs2 HB GE170 GE171⟩⟩
     replace c32 := Bool.eq_false_iff.mpr c32
     subst c32
     have H1 : ((spec_l6Steps.f a0_0 a0_1 a1_0 a1_1).bind fun t184 => (if y172.length < 8796093022208 then (spec_SkyLeg.l1 kj19 (y172 ++ [(⟨a0_0, a0_1⟩ : S24)]) t184 1 a0_0 a0_1 a1_0 a1_1) else (none))) = some r := by rw [if_neg (show ¬ (false = true) by decide)] at H; exact H
     clear H
     have H := H1
     clear H1
     replace H := zbd H; obtain ⟨t184, A44, H⟩ := H
     by_cases c45 : y172.length < 8796093022208
     rotate_left
     ·rw [if_neg c45] at H
      exact absurd H (by simp)
     rw [if_pos c45] at H
     have LMc45 := zA c45
     clear c45
     obtain ⟨y185, hy185⟩ : ∃ y_ : List (S24), y_ = (y172 ++ [(⟨a0_0, a0_1⟩ : S24)]) := ⟨_, rfl⟩
     replace H : (spec_SkyLeg.l1 kj19 y185 t184 1 a0_0 a0_1 a1_0 a1_1) = some r := by first | (rw [hy185]; with_reducible exact H) | (have H2_ := (Option.bind_some _ _).symm.trans H; rw [hy185]; with_reducible exact H2_) | (have H2_ := (Option.bind_some _ _).symm.trans H; with_reducible exact H2_) | with_reducible exact H | (rw [hy185]; exact H) | exact H
     have Ny185 := zA hy185
     clear hy185
     have H' := zA H
     clear H
     have hnb46 := NB170_171.out
     have hnc46 := NB171_170.out
     obtain ⟨hcz47_0, hcz47_1⟩ := zd2 BK170
     obtain ⟨hfz47_0, hfz47_1⟩ := zn2 BK170
     obtain ⟨hcz48_0, hcz48_1⟩ := zd2 BK171
     obtain ⟨hfz48_0, hfz48_1⟩ := zn2 BK171
     go_wp2_with (first | ((with_reducible refine gate_callee (f := 15) rfl ?_); refine zgl (N := some 59) Try.func15 #[.agg #[.int .i64 a0_0, .int .i64 a0_1], .agg #[.int .i64 a1_0, .int .i64 a1_1]] ?_; (with_reducible refine (spec_l6Steps.calls a0_0 a0_1 a1_0 a1_1 t184 _ A44.out).mono ?_); rintro e w49 ⟨rfl, hb⟩; refine ⟨_, rfl, ?_⟩; replace HO_5 := zA (Kd.R_below (zr HO_5) hb); replace BK170 := zb BK170 hb; replace BK171 := zb BK171 hb; replace HB := zE (zs2 HB GE170 GE171) hb; (try clear hb); (try clear hb2); (try clear hk); (try clear hi); obtain ⟨hcz50_0, hcz50_1⟩ := zd2 BK170; obtain ⟨hfz50_0, hfz50_1⟩ := zn2 BK170) | ((with_reducible refine gate_builtin (b := .append) (xs := #[.tmp 60, .tmp 62]) rfl ?_); at_builtin; refine Kd.R_append k24 (w0 := w) w.heap.size rfl (.tmp 60) (.tmp 62) 27 24 (.agg #[(.int .i64 0), (.int .i64 0)]) 16 rfl Try.underlying27 info24 rfl (by decide) (by omega) v173 y172 (⟨a0_0, a0_1⟩ : S24) [.int .i64 a0_0, .int .i64 a0_1] (fun k_ => k_ ≠ gb170 ∧ k_ ≠ gb171) (fun _ => False) rfl rfl ?aP (fun _ hk => hk.elim) ?aF ?aO ?aB ?aS ?aL ?_; (case aP => exact k24_mkM _ _ _ (⟨a0_0, a0_1⟩ : S24)); (case aB => exact (zs2 HB GE170 GE171)); (case aF => exact (fun k_ hk => ⟨Kd.freshB (g := gb170) (o := .cells #[.int .i64 a0_0, .int .i64 a0_1] 24 (0, 0)) (zh BK170) k_ hk, Kd.freshB (g := gb171) (o := .cells #[.int .i64 a1_0, .int .i64 a1_1] 24 (0, 0)) (zh BK171) k_ hk⟩)); (case aO => exact (zr HO_5)); (case aS => exact (below_size (zs2 HB GE170 GE171))); (case aL => have := LMc45.out; omega); intro v186 w51 ho hb hg hat; rw [← Ny185.out] at ho; have HO187 := zA (ho); replace BK170 := zA (blk_grown (g := gb170) (o := .cells #[.int .i64 a0_0, .int .i64 a0_1] 24 (0, 0)) (zh BK170) hg (Kd.R_away HO_5.out (fun _ hk => hk.1))); replace BK171 := zA (blk_grown (g := gb171) (o := .cells #[.int .i64 a1_0, .int .i64 a1_1] 24 (0, 0)) (zh BK171) hg (Kd.R_away HO_5.out (fun _ hk => hk.2))); replace HB := zA (hb); clear HO_5; clear ho hb hg hat))
     go_loopg [5, 9] kj19 (fun kq v5 v9 w' => ∃ (x5_3 : List (S24)) (x9_3 : Int), v9 = .int .i64 x9_3 ∧ Aside0 (spec_SkyLeg.l1 kq x5_3 t184 x9_3 a0_0 a0_1 a1_0 a1_1 = some r) ∧ Aside0 (kq ≤ kj19) ∧ Aside0 (Kd.R k24 24 w' w.heap.size (fun k_ => k_ ≠ gb170 ∧ k_ ≠ gb171) v5 x5_3) ∧ Aside0 (w'.heap[gb170]? = some (.cells #[.int .i64 a0_0, .int .i64 a0_1] 24 (0, 0))) ∧ Aside0 (w'.heap[gb171]? = some (.cells #[.int .i64 a1_0, .int .i64 a1_1] 24 (0, 0))) ∧ Aside0 (Below w.heap.size w w'))
     case atStart => exact ⟨(y185), (1), zi, H', ⟨Nat.le_refl _⟩, ⟨zr HO187⟩, ⟨zh BK170⟩, ⟨zh BK171⟩, ⟨zs2 HB GE170 GE171⟩⟩
     case round =>
      clear H'
      try clear c1
      try clear p1
      try clear q1
      try clear hx1
      try clear c2
      try clear p2
      try clear c3
      try clear c4
      try clear p6
      try clear c7
      try clear c9
      try clear c11
      try clear c14
      try clear c15
      try clear c16
      try clear p18
      try clear q18
      try clear hx18
      try clear c19
      try clear c21
      try clear c21b0
      try clear c22
      try clear c25
      try clear c25b0
      try clear c25b1
      try clear c26
      try clear c29
      try clear c32
      try clear c34
      try clear c39
      try clear c39b0
      try clear c40
      try clear c40b0
      try clear c41
      try clear c41b0
      try clear c42
      try clear c45
      try clear c46
      try clear hcz12_0 hcz12_1
      try clear hcz14_0 hcz14_1
      try clear hcz17_0 hcz17_1
      try clear hcz23_0 hcz23_1
      try clear hcz24_0 hcz24_1
      try clear hcz27_0 hcz27_1
      try clear hcz28_0 hcz28_1
      try clear hcz30_0 hcz30_1
      try clear hcz31_0 hcz31_1
      try clear hcz35_0 hcz35_1
      try clear hcz36_0 hcz36_1
      try clear hcz47_0 hcz47_1
      try clear hcz48_0 hcz48_1
      try clear hcz50_0 hcz50_1
      try clear hfz12_0 hfz12_1
      try clear hfz14_0 hfz14_1
      try clear hfz17_0 hfz17_1
      try clear hfz23_0 hfz23_1
      try clear hfz24_0 hfz24_1
      try clear hfz27_0 hfz27_1
      try clear hfz28_0 hfz28_1
      try clear hfz30_0 hfz30_1
      try clear hfz31_0 hfz31_1
      try clear hfz35_0 hfz35_1
      try clear hfz36_0 hfz36_1
      try clear hfz47_0 hfz47_1
      try clear hfz48_0 hfz48_1
      try clear hfz50_0 hfz50_1
      try clear hx180_0
      try clear hx180_1
      try clear p180
      try clear p2
      try clear p6
      try clear q180
      obtain ⟨x5_3, x9_3, rfl, HA, HK3, HO_5, BK170, BK171, HB⟩ := hrel
      cases gk with
      | zero => exact absurd HA.out (by simp [spec_SkyLeg.l1])
      | succ k3 =>
       have H := HA.out
       clear HA
       simp only [spec_SkyLeg.l1] at H
       by_cases c52 : x9_3 ≤ t184
       rotate_left
       ·rw [if_neg c52] at H
        have c52b0 : decide (x9_3 ≤ t184) = false := decide_eq_false c52
        clear c52
        obtain rfl := Option.some.inj H
        go_wp2
        go_ret
        exact ⟨_, ze, by (with_reducible repeat (first | apply Kd.R_alloc | apply Kd.R_drewN | apply Kd.R_drew)); exact Kd.R_mono HO_5.out (fun _ hk => trivial), zs2 HB GE170 GE171⟩
       rw [if_pos c52] at H
       have c52b0 : decide (x9_3 ≤ t184) = true := decide_eq_true c52
       clear c52
       replace H := zbd H; obtain ⟨t188, A53, H⟩ := H
       replace H := Option.bind_eq_some_iff.mp H
       obtain ⟨t189, A540, H⟩ := H
       replace H : (if x5_3.length < 8796093022208 then (spec_SkyLeg.l1 k3 (x5_3 ++ [(⟨wrap64 (a0_0 + t188), wrap64 (a0_1 + t189)⟩ : S24)]) t184 (wrap64 (x9_3 + 1)) a0_0 a0_1 a1_0 a1_1) else (none)) = some r := H
       have A54 := zA A540
       clear A540
       by_cases c55 : x5_3.length < 8796093022208
       rotate_left
       ·rw [if_neg c55] at H
        exact absurd H (by simp)
       rw [if_pos c55] at H
       have LMc55 := zA c55
       clear c55
       obtain ⟨y190, hy190⟩ : ∃ y_ : List (S24), y_ = (x5_3 ++ [(⟨wrap64 (a0_0 + t188), wrap64 (a0_1 + t189)⟩ : S24)]) := ⟨_, rfl⟩
       replace H : (spec_SkyLeg.l1 k3 y190 t184 (wrap64 (x9_3 + 1)) a0_0 a0_1 a1_0 a1_1) = some r := by first | (rw [hy190]; with_reducible exact H) | (have H2_ := (Option.bind_some _ _).symm.trans H; rw [hy190]; with_reducible exact H2_) | (have H2_ := (Option.bind_some _ _).symm.trans H; with_reducible exact H2_) | with_reducible exact H | (rw [hy190]; exact H) | exact H
       have Ny190 := zA hy190
       clear hy190
       have H' := zA H
       clear H
       try go_wp2
       replace HO_5 := zA (Kd.R_drew HO_5.out)
       replace BK170 := zA (blk_drew BK170.out)
       replace BK171 := zA (blk_drew BK171.out)
       replace HB := zA (below_drew1 HB.out)
       refine start_ (n := 27) (S := fun w' => w'.cell? ⟨gb170, 0, none⟩ = some (.int .i64 a0_0) ∧ w'.cell? ⟨gb170, 1, none⟩ = some (.int .i64 a0_1) ∧ w'.cell? ⟨gb171, 0, none⟩ = some (.int .i64 a1_0) ∧ w'.cell? ⟨gb171, 1, none⟩ = some (.int .i64 a1_1)) (ds := []) #[F,F,F,F,F,F,F,F,F,F,F,F,F,F,F,F,F,F,F,F,F,F,F,F,F,F,F] (by kernel_rfl) rfl rfl ⟨zc0 BK170, zc1 BK170, zc0 BK171, zc1 BK171⟩ (fun hHeld => ?_); refine with_tabW spec_SkyLeg.tab16 spec_SkyLeg.bits16 (fun HT_ HW_ => ?_)
       generalize wr.drew = w56 at HO_5 BK170 BK171 HB hHeld ⊢
       refine zq HT_ 0 ?_
       refine zq HT_ 1 ?_
       refine zq HT_ 3 ?_
       refine zq HT_ 5 ?_
       refine zq HT_ 8 ?_
       refine zq HT_ 9 ?_
       refine zq HT_ 12 ?_
       refine zq HT_ 14 ?_
       refine zq HT_ 16 ?_
       refine zq HT_ 19 ?_
       refine zq HT_ 20 ?_
       refine zk4 HT_ HW_ hHeld 2 ?_
       refine zk4 HT_ HW_ hHeld 4 ?_
       refine zk4 HT_ HW_ hHeld 6 ?_
       refine zq HT_ 7 ?_
       refine zk4 HT_ HW_ hHeld 13 ?_
       refine zk4 HT_ HW_ hHeld 15 ?_
       refine zk4 HT_ HW_ hHeld 17 ?_
       refine zq HT_ 18 ?_
       refine zo HT_ 10 (fun K hK => ?_)
       refine zgo Try.func16 #[.int .i64 (wrap64 (a1_0 - a0_0)), .int .i64 x9_3, .int .i64 t184] ?_
       with_reducible refine (spec_l6Part.calls (wrap64 (a1_0 - a0_0)) x9_3 t184 t188 _ A53.out).mono ?_
       rintro e w' ⟨rfl, ⟨nd, rfl⟩⟩
       refine ⟨_, rfl, ?_⟩
       refine hK.out _ _ ⟨zc0 BK170, zc1 BK170, zc0 BK171, zc1 BK171⟩ (fun hHeld => ?_)
       clear hK K
       refine zN ?_
       refine zq HT_ 11 ?_
       refine zo HT_ 21 (fun K hK => ?_)
       refine zgo Try.func16 #[.int .i64 (wrap64 (a1_1 - a0_1)), .int .i64 x9_3, .int .i64 t184] ?_
       with_reducible refine (spec_l6Part.calls (wrap64 (a1_1 - a0_1)) x9_3 t184 t189 _ A54.out).mono ?_
       rintro e w' ⟨rfl, ⟨nd, rfl⟩⟩
       refine ⟨_, rfl, ?_⟩
       refine hK.out _ _ ⟨zc0 BK170, zc1 BK170, zc0 BK171, zc1 BK171⟩ (fun hHeld => ?_)
       clear hK K
       refine zN ?_
       refine zq HT_ 22 ?_
       refine zq HT_ 23 ?_
       refine zo HT_ 24 (fun K hK => ?_)
       refine value_ (w1 := ?_) (v := ?_) (by rfl) rfl ?_ ?_
       rotate_left 2
       ·go_simp
        constructor
        ·rfl
        ·rfl
       refine hK.out _ _ ⟨(blk_cell (blk_alloc BK170.out _) 0).trans rfl, (blk_cell (blk_alloc BK170.out _) 1).trans rfl, (blk_cell (blk_alloc BK171.out _) 0).trans rfl, (blk_cell (blk_alloc BK171.out _) 1).trans rfl⟩ (fun hHeld => ?_)
       clear hK K
       refine zN ?_
       refine zo HT_ 25 (fun K hK => ?_)
       refine Kd.R_append_step k24 (w0 := w) w.heap.size (by rfl) (.tmp 69) (.tmp 93) 27 24 (.agg #[(.int .i64 0), (.int .i64 0)]) 16 rfl Try.underlying27 info24 rfl (by decide) (by omega) u5 x5_3 (⟨wrap64 (a0_0 + t188), wrap64 (a0_1 + t189)⟩ : S24) [.int .i64 (wrap64 (a0_0 + t188)), .int .i64 (wrap64 (a0_1 + t189))] (fun k_ => k_ ≠ gb170 ∧ k_ ≠ gb171) (fun _ => False) rfl rfl ?aP (fun _ hk => hk.elim) ?aF ?aO ?aB ?aS ?aL ?_
       (case aP => exact k24_mkM _ _ _ (⟨wrap64 (a0_0 + t188), wrap64 (a0_1 + t189)⟩ : S24))
       (case aB => exact (zs2 HB GE170 GE171))
       (case aF => exact (fun k_ hk => ⟨Kd.freshB (g := gb170) (o := .cells #[.int .i64 a0_0, .int .i64 a0_1] 24 (0, 0)) (zh BK170) k_ hk, Kd.freshB (g := gb171) (o := .cells #[.int .i64 a1_0, .int .i64 a1_1] 24 (0, 0)) (zh BK171) k_ hk⟩))
       (case aO => exact (zr HO_5))
       (case aS => exact (below_size (zs2 HB GE170 GE171)))
       (case aL => have := LMc55.out; omega)
       intro v191 w57 ho hb hg hat
       rw [← Ny190.out] at ho
       have HO192 := zA (ho)
       replace BK170 := zA (blk_grown (g := gb170) (o := .cells #[.int .i64 a0_0, .int .i64 a0_1] 24 (0, 0)) (zh BK170) hg (Kd.R_away HO_5.out (fun _ hk => hk.1)))
       replace BK171 := zA (blk_grown (g := gb171) (o := .cells #[.int .i64 a1_0, .int .i64 a1_1] 24 (0, 0)) (zh BK171) hg (Kd.R_away HO_5.out (fun _ hk => hk.2)))
       replace HB := zA (hb)
       clear HO_5
       clear ho hb hg hat
       refine hK.out _ _ ⟨zc0 BK170, zc1 BK170, zc0 BK171, zc1 BK171⟩ (fun hHeld => ?_)
       clear hK K
       refine zN ?_
       refine zq HT_ 26 ?_
       refine done_ (done_of HT_.out (by kernel_rfl)) ?_
       try go_wp2
       go_roundg k3
       case measure => have := HJ2.out; have := HJ19.out; have := HK3.out; omega
       case rel => exact ⟨(y190), (wrap64 (x9_3 + 1)), zi, H', ⟨by have := HJ2.out; have := HJ19.out; have := HK3.out; omega⟩, ⟨zr HO192⟩, ⟨zh BK170⟩, ⟨zh BK171⟩, ⟨zs2 HB GE170 GE171⟩⟩
end Go.Proofs.Ytaeichaofhcheaa.QFnSkyLegs
