/- The walk of what the law FnExactFlyTube reaches: laid by a program of this session (ownprint.py). -/
import Derived.Test.YtbmplfpnhjhoiaaQFnExactFlyTubex0
import Derived.Test.YtbmplfpnhjhoiaaQFnExactFlyTubex4
import Derived.Test.YtbmplfpnhjhoiaaQFnExactFlyTubex6
namespace Go.Proofs.Ytbmplfpnhjhoiaa.QFnExactFlyTube
open Go.RowKit Go.Proofs.YtbmplfpnhjhoiaaW.PrintWords Go.Proofs.YtbmplfpnhjhoiaaW.PrintLast Go.Proofs.YtbmplfpnhjhoiaaW.PrintMore Go.Proofs.Ytbmplfpnhjhoiaa.Z
attribute [local go_sem] max2_int min2_int max_two min_two max_three min_three max_four min_four zdn   -- for this text's walks alone
set_option linter.unusedVariables false
set_option linter.unusedSimpArgs false
def spec_FlySpans.f (k : Nat) (a0_0 : Int) (a0_1 : Int) (l0_2 : List (S132)) (a0_3 : Int) (a0_4 : Int) : Option ((List (S110)) × Bool) := (spec_FlyPathOk.f k a0_0 a0_1 l0_2 a0_3 a0_4).bind fun t215 => (if t215 = true then ((spec_l24Spans.f k a0_0 a0_1 l0_2 a0_3 a0_4).bind fun bt216 => (some (bt216.1, bt216.2))) else (some ((([] : List (S110))), false)))
set_option maxHeartbeats 8000000 in
set_option maxRecDepth 100000 in
theorem spec_FlySpans.calls (k : Nat) (a0_0 : Int) (a0_1 : Int) (A0_2 : Option Addr) (c0_2 : Nat) (l0_2 : List (S132)) (a0_3 : Int) (a0_4 : Int) (r1 : List (S110)) (r2 : Bool) (w : World) (hr0_2 : Kd.C k132 w A0_2 l0_2.length l0_2) (hc0_2 : l0_2.length ≤ c0_2) (h : spec_FlySpans.f k a0_0 a0_1 l0_2 a0_3 a0_4 = some (r1, r2)) :
 Calls Try.prog 125 #[.agg #[.int .i64 a0_0, .int .i64 a0_1, .slice A0_2 l0_2.length c0_2, .int .i64 a0_3, .int .i64 a0_4]] w fun e w' => ∃ v0_ : Value, e = .returned (.tuple #[v0_, .bool r2]) ∧ Kd.R k110 110 w' w.heap.size (fun _ => True) v0_ r1 ∧ Below w.heap.size w w' := by
 have hu68 := Try.underlying68
 have HR0_2 := zA hr0_2
 have HC0_2 := zA hc0_2
 clear hr0_2 hc0_2
 have HB := zA (Below.refl w.heap.size w)
 have H : ((spec_FlyPathOk.f k a0_0 a0_1 l0_2 a0_3 a0_4).bind fun t215 => (if t215 = true then ((spec_l24Spans.f k a0_0 a0_1 l0_2 a0_3 a0_4).bind fun bt216 => (some (bt216.1, bt216.2))) else (some ((([] : List (S110))), false)))) = some (r1, r2) := h
 clear h
 replace H := Option.bind_eq_some_iff.mp H
 obtain ⟨t215, A20, H⟩ := H
 replace H : (if t215 = true then ((spec_l24Spans.f k a0_0 a0_1 l0_2 a0_3 a0_4).bind fun bt216 => (some (bt216.1, bt216.2))) else (some ((([] : List (S110))), false))) = some (r1, r2) := H
 have A2 := zA A20
 clear A20
 by_cases c3 : t215 = true
 rotate_left
 ·replace c3 := Bool.eq_false_iff.mpr c3
  subst c3
  have H1 : (some ((([] : List (S110))), false)) = some (r1, r2) := by rw [if_neg (show ¬ (false = true) by decide)] at H; exact H
  clear H
  have H := H1
  clear H1
  obtain ⟨y220, hy220⟩ : ∃ y_ : List (S110), y_ = (([] : List (S110))) := ⟨_, rfl⟩
  replace H : (some (y220, false)) = some (r1, r2) := by first | (rw [hy220]; with_reducible exact H) | (have H2_ := (Option.bind_some _ _).symm.trans H; rw [hy220]; with_reducible exact H2_) | (have H2_ := (Option.bind_some _ _).symm.trans H; with_reducible exact H2_) | with_reducible exact H | (rw [hy220]; exact H) | exact H
  have Ny220 := zA hy220
  clear hy220
  simp only [Option.some.injEq, Prod.mk.injEq] at H
  obtain ⟨rfl, rfl⟩ := H
  go_enter Try.func125, Try.ntmps125
  go_wp2_with (first | ((with_reducible refine gate_dst (N := 1) rfl ?_); refine box_event (by rfl) (N := 1) (by rfl) (cs := #[.int .i64 a0_0, .int .i64 a0_1, .slice A0_2 l0_2.length c0_2, .int .i64 a0_3, .int .i64 a0_4]) (t := 68) zg ?_; intro gb214 hg w10 hbox hb; have n0_ := zA (below_step (zs0 HB) hb); have n1_ := zA (hbox); have n2_ := zA ((by rw [hg]; exact (below_size (zs0 HB)) : w.heap.size ≤ gb214)); have n3_ := zA ((by rw [hg]; exact (below_size (zs0 HB)) : w.heap.size ≤ gb214)); clear HB; have HB := n0_; have BK214 := n1_; have GW214 := n2_; have GE214 := n3_; clear n0_ n1_ n2_ n3_; clear hb hbox hg; obtain ⟨hcz11_0, hcz11_1, hcz11_2, hcz11_3, hcz11_4⟩ := zd5 BK214; obtain ⟨hfz11_0, hfz11_1, hfz11_2, hfz11_3, hfz11_4⟩ := zn5 BK214) | ((with_reducible refine gate_callee (f := 75) rfl ?_); refine goesL_ (some 5) rfl rfl Try.func75 (by kernel_rfl) rfl #[.agg #[.int .i64 a0_0, .int .i64 a0_1, .slice A0_2 l0_2.length c0_2, .int .i64 a0_3, .int .i64 a0_4]] rfl zl ?_; (with_reducible refine (spec_FlyPathOk.calls k a0_0 a0_1 _ _ l0_2 a0_3 a0_4 false _ ?side1 ?side2 A2.out).mono ?_); (case side1 => exact zC HR0_2 HB); (case side2 => exact HC0_2.out); rintro e w12 ⟨rfl, hb⟩; refine ⟨_, rfl, ?_⟩; have n0_ := zb BK214 hb; have n1_ := zA (below_step (zs1 HB GE214) hb); clear BK214 HB; revert n0_ n1_; intro BK214 HB; (try clear hb); (try clear hb2); (try clear hk); (try clear hi)) | ((with_reducible refine gate_dst (N := 7) rfl ?_); refine Kd.R_lit k110 _ 110 ?hg (N := 7) ?hd (xs := ([] : List (S110))) (inner := []) (ok := fun _ => True) (okp := fun _ => True) ?hr ?hp (fun _ hk => hk) trivial (Below.refl _ _) (Nat.le_refl _) (by simp) ?_; (case hd => rfl); (case hg => rfl); (case hr => first | (go_simp; done) | (go_simp; rfl)); (case hp => exact (Reps.none _ _)); intro v221 w13 ho14 hb hg_ hnew_; clear hg_ hnew_; (first | rw [← Ny220.out] at ho14 | (simp only [Int.reduceToNat] at ho14; rw [← Ny220.out] at ho14)); have n0_ := zA (Kd.R_lower ho14 (below_size (zs1 HB GE214))); have n1_ := zb BK214 hb; have n2_ := zA (below_step (zs1 HB GE214) hb); clear BK214; clear HB; have HO222 := n0_; have BK214 := n1_; have HB := n2_; clear n0_ n1_ n2_; clear hb ho14))
  go_ret2
  exact ⟨_, ze, zr HO222, zs1 HB GE214⟩
 subst c3
 have H1 : ((spec_l24Spans.f k a0_0 a0_1 l0_2 a0_3 a0_4).bind fun bt216 => (some (bt216.1, bt216.2))) = some (r1, r2) := by rw [if_pos rfl] at H; exact H
 clear H
 have H := H1
 clear H1
 replace H := Option.bind_eq_some_iff.mp H
 obtain ⟨⟨t216, t219⟩, A40, H⟩ := H
 replace H : (some (t216, t219)) = some (r1, r2) := H
 have A4 := zA A40
 clear A40
 simp only [Option.some.injEq, Prod.mk.injEq] at H
 obtain ⟨rfl, rfl⟩ := H
 go_enter Try.func125, Try.ntmps125
 go_wp2_with (first | ((with_reducible refine gate_dst (N := 1) rfl ?_); refine box_event (by rfl) (N := 1) (by rfl) (cs := #[.int .i64 a0_0, .int .i64 a0_1, .slice A0_2 l0_2.length c0_2, .int .i64 a0_3, .int .i64 a0_4]) (t := 68) zg ?_; intro gb214 hg w5 hbox hb; have n0_ := zA (below_step (zs0 HB) hb); have n1_ := zA (hbox); have n2_ := zA ((by rw [hg]; exact (below_size (zs0 HB)) : w.heap.size ≤ gb214)); have n3_ := zA ((by rw [hg]; exact (below_size (zs0 HB)) : w.heap.size ≤ gb214)); clear HB; have HB := n0_; have BK214 := n1_; have GW214 := n2_; have GE214 := n3_; clear n0_ n1_ n2_ n3_; clear hb hbox hg; obtain ⟨hcz6_0, hcz6_1, hcz6_2, hcz6_3, hcz6_4⟩ := zd5 BK214; obtain ⟨hfz6_0, hfz6_1, hfz6_2, hfz6_3, hfz6_4⟩ := zn5 BK214) | ((with_reducible refine gate_callee (f := 75) rfl ?_); refine goesL_ (some 5) rfl rfl Try.func75 (by kernel_rfl) rfl #[.agg #[.int .i64 a0_0, .int .i64 a0_1, .slice A0_2 l0_2.length c0_2, .int .i64 a0_3, .int .i64 a0_4]] rfl zl ?_; (with_reducible refine (spec_FlyPathOk.calls k a0_0 a0_1 _ _ l0_2 a0_3 a0_4 true _ ?side1 ?side2 A2.out).mono ?_); (case side1 => exact zC HR0_2 HB); (case side2 => exact HC0_2.out); rintro e w7 ⟨rfl, hb⟩; refine ⟨_, rfl, ?_⟩; have n0_ := zb BK214 hb; have n1_ := zA (below_step (zs1 HB GE214) hb); clear BK214 HB; revert n0_ n1_; intro BK214 HB; (try clear hb); (try clear hb2); (try clear hk); (try clear hi); obtain ⟨hcz8_0, hcz8_1, hcz8_2, hcz8_3, hcz8_4⟩ := zd5 BK214; obtain ⟨hfz8_0, hfz8_1, hfz8_2, hfz8_3, hfz8_4⟩ := zn5 BK214) | ((with_reducible refine gate_callee (f := 121) rfl ?_); refine goesL_ (some 9) rfl rfl Try.func121 (by kernel_rfl) rfl #[.agg #[.int .i64 a0_0, .int .i64 a0_1, .slice A0_2 l0_2.length c0_2, .int .i64 a0_3, .int .i64 a0_4]] rfl zl ?_; (with_reducible refine (spec_l24Spans.calls k a0_0 a0_1 _ _ l0_2 a0_3 a0_4 t216 t219 _ ?side1 ?side2 A4.out).mono ?_); (case side1 => exact zC HR0_2 HB); (case side2 => exact HC0_2.out); rintro e w9 ⟨v217, rfl, ho0, hb⟩; refine ⟨_, rfl, ?_⟩; have n0_ := zA (Kd.R_lower ho0 (below_size (zs1 HB GE214))); have n1_ := zb BK214 hb; have n2_ := zA (below_step (zs1 HB GE214) hb); clear BK214; clear HB; have HO218 := n0_; have BK214 := n1_; have HB := n2_; clear n0_ n1_ n2_; (try clear hb); (try clear hb2); (try clear hk); (try clear hi); (try clear ho0)))
 go_ret2
 exact ⟨_, ze, zr HO218, zs1 HB GE214⟩
def spec_FlyTube.l0 : Nat → List (S112) → List (S110) → Bool → Int → Int → Int → List (S132) → Int → Int → Option ((List (S112)))
 | 0, _, _, _, _, _, _, _, _, _ => none
 | k + 1, x3, x4, x5, x6, x224000, x224001, x224002, x224003, x224004 => if x5 = true then (if x6 < (x224002.length : Int) then (if 0 ≤ x6 then (if x6 < (x4.length : Int) then (if 0 ≤ (wrap64 (x6 + 1)) then (if (wrap64 (x6 + 1)) < (x4.length : Int) then (if x3.length < 2932031007402 then (spec_FlyTube.l0 k (x3 ++ [(⟨(rd_T132 x224002 x6).f0, (rd_T132 x224002 x6).f1, (rd_T132 x224002 x6).f2, (rd_T132 x224002 x6).f3, (rd_T110 x4 x6).f0, wrap64 (((rd_T110 x4 (wrap64 (x6 + 1))).f1) - 1)⟩ : S112)]) x4 x5 (wrap64 (x6 + 1)) x224000 x224001 x224002 x224003 x224004) else (none)) else (none)) else (none)) else (none)) else (none)) else (some x3)) else (some x3)
def spec_FlyTube.f (k : Nat) (a0_0 : Int) (a0_1 : Int) (l0_2 : List (S132)) (a0_3 : Int) (a0_4 : Int) : Option ((List (S112))) := (spec_FlySpans.f k a0_0 a0_1 l0_2 a0_3 a0_4).bind fun bt227 => (spec_FlyTube.l0 k (([] : List (S112))) bt227.1 bt227.2 0 a0_0 a0_1 l0_2 a0_3 a0_4)
def spec_FlyTube.T7 : Bool × List (List Nat × List Nat) := (true, [([], []), ([], []), ([1], [1]), ([], []), ([3], [3]), ([], []), ([5], [5]), ([], []), ([7], [7]), ([], []), ([], []), ([9, 10], [9, 10]), ([11], [11]), ([12], [12]), ([], []), ([], []), ([15], [15]), ([14, 16], [14, 16]), ([17], [17]), ([18], [18]), ([19], [19]), ([2, 4, 6, 8, 13, 20], [2, 4, 6, 8, 13, 20]), ([21], [21]), ([0, 22], [0, 22]), ([23, 23, 0, 1, 2, 3, 4, 5, 6, 7, 8, 9, 10, 11, 12, 13, 14, 15, 16, 17, 18, 19, 20, 21, 22, 23], [0, 23])])
def spec_FlyTube.B7 : List Nat := [0, 0, 2, 0, 8, 0, 32, 0, 128, 0, 0, 1536, 3584, 7680, 0, 0, 32768, 114688, 245760, 507904, 1032192, 2097150, 4194302, 8388607, 16777215]
theorem spec_FlyTube.tab7 : rtab .any (opsOf Try.f66 7) = spec_FlyTube.T7 := by kernel_rfl
theorem spec_FlyTube.bits7 : waitsOk spec_FlyTube.T7.2 spec_FlyTube.B7 = true := by kernel_rfl
set_option maxHeartbeats 8000000 in
set_option maxRecDepth 100000 in
theorem spec_FlyTube.calls (k : Nat) (a0_0 : Int) (a0_1 : Int) (A0_2 : Option Addr) (c0_2 : Nat) (l0_2 : List (S132)) (a0_3 : Int) (a0_4 : Int) (r : List (S112)) (w : World) (hr0_2 : Kd.C k132 w A0_2 l0_2.length l0_2) (hc0_2 : l0_2.length ≤ c0_2) (h : spec_FlyTube.f k a0_0 a0_1 l0_2 a0_3 a0_4 = some r) :
 Calls Try.prog 66 #[.agg #[.int .i64 a0_0, .int .i64 a0_1, .slice A0_2 l0_2.length c0_2, .int .i64 a0_3, .int .i64 a0_4]] w fun e w' => ∃ v0_ : Value, e = .returned (v0_) ∧ Kd.R k112 112 w' w.heap.size (fun _ => True) v0_ r ∧ Below w.heap.size w w' := by
 have hu68 := Try.underlying68
 have hu132 := Try.underlying132
 have hu112 := Try.underlying112
 have HR0_2 := zA hr0_2
 have HC0_2 := zA hc0_2
 clear hr0_2 hc0_2
 have HB := zA (Below.refl w.heap.size w)
 have H : ((spec_FlySpans.f k a0_0 a0_1 l0_2 a0_3 a0_4).bind fun bt227 => (spec_FlyTube.l0 k (([] : List (S112))) bt227.1 bt227.2 0 a0_0 a0_1 l0_2 a0_3 a0_4)) = some r := h
 clear h
 obtain ⟨y224, hy224⟩ : ∃ y_ : List (S112), y_ = (([] : List (S112))) := ⟨_, rfl⟩
 replace H : ((spec_FlySpans.f k a0_0 a0_1 l0_2 a0_3 a0_4).bind fun bt227 => (spec_FlyTube.l0 k y224 bt227.1 bt227.2 0 a0_0 a0_1 l0_2 a0_3 a0_4)) = some r := by first | (rw [hy224]; with_reducible exact H) | (have H2_ := (Option.bind_some _ _).symm.trans H; rw [hy224]; with_reducible exact H2_) | (have H2_ := (Option.bind_some _ _).symm.trans H; with_reducible exact H2_) | with_reducible exact H | (rw [hy224]; exact H) | exact H
 have Ny224 := zA hy224
 clear hy224
 replace H := Option.bind_eq_some_iff.mp H
 obtain ⟨⟨t227, t230⟩, A20, H⟩ := H
 replace H : (spec_FlyTube.l0 k y224 t227 t230 0 a0_0 a0_1 l0_2 a0_3 a0_4) = some r := H
 have A2 := zA A20
 clear A20
 have H' := zA H
 clear H
 go_enter Try.func66, Try.ntmps66
 go_wp2_with (first | ((with_reducible refine gate_dst (N := 1) rfl ?_); (try (refine gate_guard (by rfl) ?_; dsimp only)); refine box_event (by rfl) (N := 1) (by rfl) (cs := #[.int .i64 a0_0, .int .i64 a0_1, .slice A0_2 l0_2.length c0_2, .int .i64 a0_3, .int .i64 a0_4]) (t := 68) zg ?_; intro gb223 hg w3 hbox hb; have n0_ := zA (below_step (zs0 HB) hb); have n1_ := zA (hbox); have n2_ := zA ((by rw [hg]; exact (below_size (zs0 HB)) : w.heap.size ≤ gb223)); have n3_ := zA ((by rw [hg]; exact (below_size (zs0 HB)) : w.heap.size ≤ gb223)); clear HB; have HB := n0_; have BK223 := n1_; have GW223 := n2_; have GE223 := n3_; clear n0_ n1_ n2_ n3_; clear hb hbox hg) | ((with_reducible refine gate_dst (N := 8) rfl ?_); (try (refine gate_guard (by rfl) ?_; dsimp only)); refine Kd.R_lit k112 _ 112 ?hg (N := 8) ?hd (xs := ([] : List (S112))) (inner := []) (ok := fun _ => True) (okp := fun _ => True) ?hr ?hp (fun _ hk => hk) trivial (Below.refl _ _) (Nat.le_refl _) (by simp) ?_; (case hd => rfl); (case hg => rfl); (case hr => first | (go_simp; done) | (go_simp; rfl)); (case hp => exact (Reps.none _ _)); intro v225 w4 ho5 hb hg_ hnew_; clear hg_ hnew_; (first | rw [← Ny224.out] at ho5 | (simp only [Int.reduceToNat] at ho5; rw [← Ny224.out] at ho5)); have n0_ := zA (Kd.R_lower ho5 (below_size (zs1 HB GE223))); have n1_ := zb BK223 hb; have n2_ := zA (below_step (zs1 HB GE223) hb); clear BK223; clear HB; have HO226 := n0_; have BK223 := n1_; have HB := n2_; clear n0_ n1_ n2_; clear hb ho5; obtain ⟨hcz6_0, hcz6_1, hcz6_2, hcz6_3, hcz6_4⟩ := zd5 BK223; obtain ⟨hfz6_0, hfz6_1, hfz6_2, hfz6_3, hfz6_4⟩ := zn5 BK223) | ((with_reducible refine gate_callee (f := 125) rfl ?_); refine goesL_ (some 11) rfl rfl Try.func125 (by kernel_rfl) rfl #[.agg #[.int .i64 a0_0, .int .i64 a0_1, .slice A0_2 l0_2.length c0_2, .int .i64 a0_3, .int .i64 a0_4]] rfl zl ?_; (with_reducible refine (spec_FlySpans.calls k a0_0 a0_1 _ _ l0_2 a0_3 a0_4 t227 t230 _ ?side1 ?side2 A2.out).mono ?_); (case side1 => exact zC HR0_2 HB); (case side2 => exact HC0_2.out); rintro e w7 ⟨v228, rfl, ho0, hb⟩; refine ⟨_, rfl, ?_⟩; have n0_ := zA (Kd.R_below (zr HO226) hb); have n1_ := zA (Kd.R_lower ho0 (below_size (zs1 HB GE223))); have n2_ := zb BK223 hb; have n3_ := zA (below_step (zs1 HB GE223) hb); clear HO226; clear BK223; clear HB; have HO226 := n0_; have HO229 := n1_; have BK223 := n2_; have HB := n3_; clear n0_ n1_ n2_ n3_; (try clear hb); (try clear hb2); (try clear hk); (try clear hi); (try clear ho0)))
 go_loopg [3, 6] k (fun kq v3 v6 w' => ∃ (x3_1 : List (S112)) (x6_1 : Int), v6 = .int .i64 x6_1 ∧ Aside0 (spec_FlyTube.l0 kq x3_1 t227 t230 x6_1 a0_0 a0_1 l0_2 a0_3 a0_4 = some r) ∧ Aside0 (kq ≤ k) ∧ Aside0 (Kd.R k112 112 w' w.heap.size (fun _ => True) v3 x3_1) ∧ Aside0 (Kd.R k110 110 w' w.heap.size (fun _ => True) v228 t227) ∧ Aside0 (w'.heap[gb223]? = some (.cells #[.int .i64 a0_0, .int .i64 a0_1, (.slice A0_2 l0_2.length c0_2), .int .i64 a0_3, .int .i64 a0_4] 68 (0, 0))) ∧ Aside0 (Below w.heap.size w w'))
 case atStart => exact ⟨(y224), (0), zi, H', ⟨Nat.le_refl _⟩, ⟨zr HO226⟩, ⟨zr HO229⟩, ⟨zh BK223⟩, ⟨zs1 HB GE223⟩⟩
 case round =>
  clear H'
  try clear c1
  try clear p2
  try clear c6
  try clear hcz6_0
  try clear hcz6_1
  try clear hcz6_2
  try clear hcz6_3
  try clear hcz6_4
  try clear hfz6_0
  try clear hfz6_1
  try clear hfz6_2
  try clear hfz6_3
  try clear hfz6_4
  obtain ⟨x3_1, x6_1, rfl, HA, HK1, HO_3, HO_4, BK223, HB⟩ := hrel
  cases gk with
  | zero => exact absurd HA.out (by simp [spec_FlyTube.l0])
  | succ k1 =>
   have H := HA.out
   clear HA
   simp only [spec_FlyTube.l0] at H
   by_cases c8 : t230 = true
   rotate_left
   ·replace c8 := Bool.eq_false_iff.mpr c8
    subst c8
    have H1 : (some x3_1) = some r := by rw [if_neg (show ¬ (false = true) by decide)] at H; exact H
    clear H
    have H := H1
    clear H1
    obtain rfl := Option.some.inj H
    go_wp2
    go_ret
    exact ⟨_, ze, zr HO_3, zs1 HB GE223⟩
   subst c8
   have H1 : (if x6_1 < (l0_2.length : Int) then (if 0 ≤ x6_1 then (if x6_1 < (t227.length : Int) then (if 0 ≤ (wrap64 (x6_1 + 1)) then (if (wrap64 (x6_1 + 1)) < (t227.length : Int) then (if x3_1.length < 2932031007402 then (spec_FlyTube.l0 k1 (x3_1 ++ [(⟨(rd_T132 l0_2 x6_1).f0, (rd_T132 l0_2 x6_1).f1, (rd_T132 l0_2 x6_1).f2, (rd_T132 l0_2 x6_1).f3, (rd_T110 t227 x6_1).f0, wrap64 (((rd_T110 t227 (wrap64 (x6_1 + 1))).f1) - 1)⟩ : S112)]) t227 true (wrap64 (x6_1 + 1)) a0_0 a0_1 l0_2 a0_3 a0_4) else (none)) else (none)) else (none)) else (none)) else (none)) else (some x3_1)) = some r := by rw [if_pos rfl] at H; exact H
   clear H
   have H := H1
   clear H1
   by_cases c9 : x6_1 < (l0_2.length : Int)
   rotate_left
   ·rw [if_neg c9] at H
    have c9b0 : decide (x6_1 < (l0_2.length : Int)) = false := decide_eq_false c9
    clear c9
    obtain rfl := Option.some.inj H
    obtain ⟨hcz24_0, hcz24_1, hcz24_2, hcz24_3, hcz24_4⟩ := zd5 BK223
    obtain ⟨hfz24_0, hfz24_1, hfz24_2, hfz24_3, hfz24_4⟩ := zn5 BK223
    go_wp2
    go_ret
    exact ⟨_, ze, zr HO_3, zs1 HB GE223⟩
   rw [if_pos c9] at H
   have c9b0 : decide (x6_1 < (l0_2.length : Int)) = true := decide_eq_true c9
   clear c9
   by_cases c10 : 0 ≤ x6_1
   rotate_left
   ·rw [if_neg c10] at H
    exact absurd H (by simp)
   rw [if_pos c10] at H
   have c10b0 : decide (0 ≤ x6_1) = true := decide_eq_true c10
   clear c10
   by_cases c11 : x6_1 < (t227.length : Int)
   rotate_left
   ·rw [if_neg c11] at H
    exact absurd H (by simp)
   rw [if_pos c11] at H
   have c11b0 : decide (x6_1 < (t227.length : Int)) = true := decide_eq_true c11
   clear c11
   obtain ⟨ji12, hji12⟩ : ∃ j_ : Int, (wrap64 (x6_1 + 1)) = j_ := ⟨_, rfl⟩
   replace H : (if 0 ≤ (ji12) then (if (ji12) < (t227.length : Int) then (if x3_1.length < 2932031007402 then (spec_FlyTube.l0 k1 (x3_1 ++ [(⟨(rd_T132 l0_2 x6_1).f0, (rd_T132 l0_2 x6_1).f1, (rd_T132 l0_2 x6_1).f2, (rd_T132 l0_2 x6_1).f3, (rd_T110 t227 x6_1).f0, wrap64 (((rd_T110 t227 (ji12)).f1) - 1)⟩ : S112)]) t227 true ji12 a0_0 a0_1 l0_2 a0_3 a0_4) else (none)) else (none)) else (none)) = some r := by first | (rw [hji12] at H; exact H) | (simp only [hji12] at H ⊢; exact H)
   have hji12w : (IntKind.i64.wrap (x6_1 + 1)) = ji12 := (i64_w _).trans hji12
   by_cases c13 : 0 ≤ (ji12)
   rotate_left
   ·rw [if_neg c13] at H
    exact absurd H (by simp)
   rw [if_pos c13] at H
   have c13b0 : decide (0 ≤ (ji12)) = true := decide_eq_true c13
   clear c13
   by_cases c14 : (ji12) < (t227.length : Int)
   rotate_left
   ·rw [if_neg c14] at H
    exact absurd H (by simp)
   rw [if_pos c14] at H
   have c14b0 : decide ((ji12) < (t227.length : Int)) = true := decide_eq_true c14
   clear c14
   by_cases c15 : x3_1.length < 2932031007402
   rotate_left
   ·rw [if_neg c15] at H
    exact absurd H (by simp)
   rw [if_pos c15] at H
   have LMc15 := zA c15
   clear c15
   obtain ⟨y235, hy235⟩ : ∃ y_ : List (S112), y_ = (x3_1 ++ [(⟨(rd_T132 l0_2 x6_1).f0, (rd_T132 l0_2 x6_1).f1, (rd_T132 l0_2 x6_1).f2, (rd_T132 l0_2 x6_1).f3, (rd_T110 t227 x6_1).f0, wrap64 (((rd_T110 t227 (ji12)).f1) - 1)⟩ : S112)]) := ⟨_, rfl⟩
   replace H : (spec_FlyTube.l0 k1 y235 t227 true ji12 a0_0 a0_1 l0_2 a0_3 a0_4) = some r := by first | (rw [hy235]; with_reducible exact H) | (have H2_ := (Option.bind_some _ _).symm.trans H; rw [hy235]; with_reducible exact H2_) | (have H2_ := (Option.bind_some _ _).symm.trans H; with_reducible exact H2_) | with_reducible exact H | (rw [hy235]; exact H) | exact H
   have Ny235 := zA hy235
   clear hy235
   have H' := zA H
   clear H
   obtain ⟨hcz16_0, hcz16_1, hcz16_2, hcz16_3, hcz16_4⟩ := zd5 BK223
   obtain ⟨hfz16_0, hfz16_1, hfz16_2, hfz16_3, hfz16_4⟩ := zn5 BK223
   have p231 : 0 ≤ (x6_1 : Int) := za
   have q231 : x6_1 < (l0_2.length : Int) := za
   obtain ⟨ad231, e231, hx231_0, hx231_1, hx231_2, hx231_3, hx231_4, hx231_5, hx231_6⟩ := at_T132 HR0_2.out x6_1 p231 q231
   cases e231
   replace hx231_0 := zx HB hx231_0
   replace hx231_1 := zx HB hx231_1
   replace hx231_2 := zx HB hx231_2
   replace hx231_3 := zx HB hx231_3
   replace hx231_4 := zx HB hx231_4
   replace hx231_5 := zx HB hx231_5
   replace hx231_6 := zx HB hx231_6
   replace p231 := eq_true p231
   replace q231 := eq_true q231
   try go_wp2_with (first | ((with_reducible refine gate_dst (N := 7) rfl ?_); (try (refine gate_guard (by rfl) ?_; dsimp only)); refine box_event (by rfl) (N := 7) (by rfl) (cs := #[.int .i64 0, .int .i64 0, .int .i64 0, .int .i64 0, .int .i64 0, .int .i64 0, .bool false]) (t := 132) zg ?_; intro gb232 hg w17 hbox hb; have n0_ := zA (Kd.R_below (zr HO_3) hb); have n1_ := zA (Kd.R_below (zr HO_4) hb); have n2_ := zb BK223 hb; have n3_ := zA (below_step (zs1 HB GE223) hb); have n4_ := zA (hbox); have n5_ := zA ((by rw [hg]; exact (below_size (zs1 HB GE223)) : w.heap.size ≤ gb232)); have n6_ := zA ((by rw [hg]; exact (below_size (zs1 HB GE223)) : w.heap.size ≤ gb232)); have n7_ := zA ((by rw [hg]; exact Nat.ne_of_lt (blk_lt (g := gb223) (o := .cells #[.int .i64 a0_0, .int .i64 a0_1, .slice (some ad231) l0_2.length c0_2, .int .i64 a0_3, .int .i64 a0_4] 68 (0, 0)) (zh BK223)) : gb223 ≠ gb232)); have n8_ := zA ((by rw [hg]; exact Nat.ne_of_gt (blk_lt (g := gb223) (o := .cells #[.int .i64 a0_0, .int .i64 a0_1, .slice (some ad231) l0_2.length c0_2, .int .i64 a0_3, .int .i64 a0_4] 68 (0, 0)) (zh BK223)) : gb232 ≠ gb223)); clear HO_3; clear HO_4; clear BK223; clear HB; have HO_3 := n0_; have HO_4 := n1_; have BK223 := n2_; have HB := n3_; have BK232 := n4_; have GW232 := n5_; have GE232 := n6_; have NB223_232 := n7_; have NB232_223 := n8_; clear n0_ n1_ n2_ n3_ n4_ n5_ n6_ n7_ n8_; clear hb hbox hg; have hnb18 := NB232_223.out; have hnc18 := NB223_232.out; obtain ⟨hcz19_0, hcz19_1, hcz19_2, hcz19_3, hcz19_4, hcz19_5, hcz19_6⟩ := zd7 BK232; obtain ⟨hfz19_0, hfz19_1, hfz19_2, hfz19_3, hfz19_4, hfz19_5, hfz19_6⟩ := zn7 BK232))
   have n0_ : Aside0 (Kd.R k112 112 (((((((w17.setCell ⟨gb232, 0, none⟩ (.int .i64 ((rd_T132 l0_2 x6_1).f0))).setCell ⟨gb232, 1, none⟩ (.int .i64 ((rd_T132 l0_2 x6_1).f1))).setCell ⟨gb232, 2, none⟩ (.int .i64 ((rd_T132 l0_2 x6_1).f2))).setCell ⟨gb232, 3, none⟩ (.int .i64 ((rd_T132 l0_2 x6_1).f3))).setCell ⟨gb232, 4, none⟩ (.int .i64 ((rd_T132 l0_2 x6_1).f4))).setCell ⟨gb232, 5, none⟩ (.int .i64 ((rd_T132 l0_2 x6_1).f5))).setCell ⟨gb232, 6, none⟩ (.bool ((rd_T132 l0_2 x6_1).f6))) w.heap.size (fun _ => True) u3 x3_1) := ⟨by (with_reducible repeat (first | apply Kd.R_alloc | apply Kd.R_drewN | apply Kd.R_drew)); exact Kd.R_mono (Kd.R_far (p := ⟨gb232, 6, none⟩) (Kd.R_far (p := ⟨gb232, 5, none⟩) (Kd.R_far (p := ⟨gb232, 4, none⟩) (Kd.R_far (p := ⟨gb232, 3, none⟩) (Kd.R_far (p := ⟨gb232, 2, none⟩) (Kd.R_far (p := ⟨gb232, 1, none⟩) (Kd.R_far (p := ⟨gb232, 0, none⟩) (Kd.R_types HO_3.out BK232.out (by decide)) (fun _ hk => hk.2) (.int .i64 ((rd_T132 l0_2 x6_1).f0))) (fun _ hk => hk.2) (.int .i64 ((rd_T132 l0_2 x6_1).f1))) (fun _ hk => hk.2) (.int .i64 ((rd_T132 l0_2 x6_1).f2))) (fun _ hk => hk.2) (.int .i64 ((rd_T132 l0_2 x6_1).f3))) (fun _ hk => hk.2) (.int .i64 ((rd_T132 l0_2 x6_1).f4))) (fun _ hk => hk.2) (.int .i64 ((rd_T132 l0_2 x6_1).f5))) (fun _ hk => hk.2) (.bool ((rd_T132 l0_2 x6_1).f6))) (fun _ hk => trivial)⟩
   have n1_ : Aside0 (Kd.R k110 110 (((((((w17.setCell ⟨gb232, 0, none⟩ (.int .i64 ((rd_T132 l0_2 x6_1).f0))).setCell ⟨gb232, 1, none⟩ (.int .i64 ((rd_T132 l0_2 x6_1).f1))).setCell ⟨gb232, 2, none⟩ (.int .i64 ((rd_T132 l0_2 x6_1).f2))).setCell ⟨gb232, 3, none⟩ (.int .i64 ((rd_T132 l0_2 x6_1).f3))).setCell ⟨gb232, 4, none⟩ (.int .i64 ((rd_T132 l0_2 x6_1).f4))).setCell ⟨gb232, 5, none⟩ (.int .i64 ((rd_T132 l0_2 x6_1).f5))).setCell ⟨gb232, 6, none⟩ (.bool ((rd_T132 l0_2 x6_1).f6))) w.heap.size (fun _ => True) v228 t227) := ⟨by (with_reducible repeat (first | apply Kd.R_alloc | apply Kd.R_drewN | apply Kd.R_drew)); exact Kd.R_mono (Kd.R_far (p := ⟨gb232, 6, none⟩) (Kd.R_far (p := ⟨gb232, 5, none⟩) (Kd.R_far (p := ⟨gb232, 4, none⟩) (Kd.R_far (p := ⟨gb232, 3, none⟩) (Kd.R_far (p := ⟨gb232, 2, none⟩) (Kd.R_far (p := ⟨gb232, 1, none⟩) (Kd.R_far (p := ⟨gb232, 0, none⟩) (Kd.R_types HO_4.out BK232.out (by decide)) (fun _ hk => hk.2) (.int .i64 ((rd_T132 l0_2 x6_1).f0))) (fun _ hk => hk.2) (.int .i64 ((rd_T132 l0_2 x6_1).f1))) (fun _ hk => hk.2) (.int .i64 ((rd_T132 l0_2 x6_1).f2))) (fun _ hk => hk.2) (.int .i64 ((rd_T132 l0_2 x6_1).f3))) (fun _ hk => hk.2) (.int .i64 ((rd_T132 l0_2 x6_1).f4))) (fun _ hk => hk.2) (.int .i64 ((rd_T132 l0_2 x6_1).f5))) (fun _ hk => hk.2) (.bool ((rd_T132 l0_2 x6_1).f6))) (fun _ hk => trivial)⟩
   have n2_ : Aside0 ((((((((w17.setCell ⟨gb232, 0, none⟩ (.int .i64 ((rd_T132 l0_2 x6_1).f0))).setCell ⟨gb232, 1, none⟩ (.int .i64 ((rd_T132 l0_2 x6_1).f1))).setCell ⟨gb232, 2, none⟩ (.int .i64 ((rd_T132 l0_2 x6_1).f2))).setCell ⟨gb232, 3, none⟩ (.int .i64 ((rd_T132 l0_2 x6_1).f3))).setCell ⟨gb232, 4, none⟩ (.int .i64 ((rd_T132 l0_2 x6_1).f4))).setCell ⟨gb232, 5, none⟩ (.int .i64 ((rd_T132 l0_2 x6_1).f5))).setCell ⟨gb232, 6, none⟩ (.bool ((rd_T132 l0_2 x6_1).f6))).heap[gb223]? = some (.cells #[.int .i64 a0_0, .int .i64 a0_1, .slice (some ad231) l0_2.length c0_2, .int .i64 a0_3, .int .i64 a0_4] 68 (0, 0))) := ⟨by (with_reducible repeat (first | refine blk_drewN ?_ _ | refine blk_drew ?_ | refine blk_alloc ?_ _)); refine blk_far ?_ NB223_232.out _; (with_reducible repeat (first | refine blk_drewN ?_ _ | refine blk_drew ?_ | refine blk_alloc ?_ _)); refine blk_far ?_ NB223_232.out _; (with_reducible repeat (first | refine blk_drewN ?_ _ | refine blk_drew ?_ | refine blk_alloc ?_ _)); refine blk_far ?_ NB223_232.out _; (with_reducible repeat (first | refine blk_drewN ?_ _ | refine blk_drew ?_ | refine blk_alloc ?_ _)); refine blk_far ?_ NB223_232.out _; (with_reducible repeat (first | refine blk_drewN ?_ _ | refine blk_drew ?_ | refine blk_alloc ?_ _)); refine blk_far ?_ NB223_232.out _; (with_reducible repeat (first | refine blk_drewN ?_ _ | refine blk_drew ?_ | refine blk_alloc ?_ _)); refine blk_far ?_ NB223_232.out _; (with_reducible repeat (first | refine blk_drewN ?_ _ | refine blk_drew ?_ | refine blk_alloc ?_ _)); refine blk_far ?_ NB223_232.out _; (with_reducible repeat (first | refine blk_drewN ?_ _ | refine blk_drew ?_ | refine blk_alloc ?_ _)); exact BK223.out⟩
   have n3_ : Aside0 ((((((((w17.setCell ⟨gb232, 0, none⟩ (.int .i64 ((rd_T132 l0_2 x6_1).f0))).setCell ⟨gb232, 1, none⟩ (.int .i64 ((rd_T132 l0_2 x6_1).f1))).setCell ⟨gb232, 2, none⟩ (.int .i64 ((rd_T132 l0_2 x6_1).f2))).setCell ⟨gb232, 3, none⟩ (.int .i64 ((rd_T132 l0_2 x6_1).f3))).setCell ⟨gb232, 4, none⟩ (.int .i64 ((rd_T132 l0_2 x6_1).f4))).setCell ⟨gb232, 5, none⟩ (.int .i64 ((rd_T132 l0_2 x6_1).f5))).setCell ⟨gb232, 6, none⟩ (.bool ((rd_T132 l0_2 x6_1).f6))).heap[gb232]? = some (.cells #[.int .i64 ((rd_T132 l0_2 x6_1).f0), .int .i64 ((rd_T132 l0_2 x6_1).f1), .int .i64 ((rd_T132 l0_2 x6_1).f2), .int .i64 ((rd_T132 l0_2 x6_1).f3), .int .i64 ((rd_T132 l0_2 x6_1).f4), .int .i64 ((rd_T132 l0_2 x6_1).f5), .bool ((rd_T132 l0_2 x6_1).f6)] 132 (0, 0))) := ⟨by (with_reducible repeat (first | refine blk_drewN ?_ _ | refine blk_drew ?_ | refine blk_alloc ?_ _)); refine blk_put (cs := #[.int .i64 ((rd_T132 l0_2 x6_1).f0), .int .i64 ((rd_T132 l0_2 x6_1).f1), .int .i64 ((rd_T132 l0_2 x6_1).f2), .int .i64 ((rd_T132 l0_2 x6_1).f3), .int .i64 ((rd_T132 l0_2 x6_1).f4), .int .i64 ((rd_T132 l0_2 x6_1).f5), .bool false]) ?_ 6 _ rfl; (with_reducible repeat (first | refine blk_drewN ?_ _ | refine blk_drew ?_ | refine blk_alloc ?_ _)); refine blk_put (cs := #[.int .i64 ((rd_T132 l0_2 x6_1).f0), .int .i64 ((rd_T132 l0_2 x6_1).f1), .int .i64 ((rd_T132 l0_2 x6_1).f2), .int .i64 ((rd_T132 l0_2 x6_1).f3), .int .i64 ((rd_T132 l0_2 x6_1).f4), .int .i64 0, .bool false]) ?_ 5 _ rfl; (with_reducible repeat (first | refine blk_drewN ?_ _ | refine blk_drew ?_ | refine blk_alloc ?_ _)); refine blk_put (cs := #[.int .i64 ((rd_T132 l0_2 x6_1).f0), .int .i64 ((rd_T132 l0_2 x6_1).f1), .int .i64 ((rd_T132 l0_2 x6_1).f2), .int .i64 ((rd_T132 l0_2 x6_1).f3), .int .i64 0, .int .i64 0, .bool false]) ?_ 4 _ rfl; (with_reducible repeat (first | refine blk_drewN ?_ _ | refine blk_drew ?_ | refine blk_alloc ?_ _)); refine blk_put (cs := #[.int .i64 ((rd_T132 l0_2 x6_1).f0), .int .i64 ((rd_T132 l0_2 x6_1).f1), .int .i64 ((rd_T132 l0_2 x6_1).f2), .int .i64 0, .int .i64 0, .int .i64 0, .bool false]) ?_ 3 _ rfl; (with_reducible repeat (first | refine blk_drewN ?_ _ | refine blk_drew ?_ | refine blk_alloc ?_ _)); refine blk_put (cs := #[.int .i64 ((rd_T132 l0_2 x6_1).f0), .int .i64 ((rd_T132 l0_2 x6_1).f1), .int .i64 0, .int .i64 0, .int .i64 0, .int .i64 0, .bool false]) ?_ 2 _ rfl; (with_reducible repeat (first | refine blk_drewN ?_ _ | refine blk_drew ?_ | refine blk_alloc ?_ _)); refine blk_put (cs := #[.int .i64 ((rd_T132 l0_2 x6_1).f0), .int .i64 0, .int .i64 0, .int .i64 0, .int .i64 0, .int .i64 0, .bool false]) ?_ 1 _ rfl; (with_reducible repeat (first | refine blk_drewN ?_ _ | refine blk_drew ?_ | refine blk_alloc ?_ _)); refine blk_put (cs := #[.int .i64 0, .int .i64 0, .int .i64 0, .int .i64 0, .int .i64 0, .int .i64 0, .bool false]) ?_ 0 _ rfl; (with_reducible repeat (first | refine blk_drewN ?_ _ | refine blk_drew ?_ | refine blk_alloc ?_ _)); exact BK232.out⟩
   have n4_ : Aside0 (Below w.heap.size w (((((((w17.setCell ⟨gb232, 0, none⟩ (.int .i64 ((rd_T132 l0_2 x6_1).f0))).setCell ⟨gb232, 1, none⟩ (.int .i64 ((rd_T132 l0_2 x6_1).f1))).setCell ⟨gb232, 2, none⟩ (.int .i64 ((rd_T132 l0_2 x6_1).f2))).setCell ⟨gb232, 3, none⟩ (.int .i64 ((rd_T132 l0_2 x6_1).f3))).setCell ⟨gb232, 4, none⟩ (.int .i64 ((rd_T132 l0_2 x6_1).f4))).setCell ⟨gb232, 5, none⟩ (.int .i64 ((rd_T132 l0_2 x6_1).f5))).setCell ⟨gb232, 6, none⟩ (.bool ((rd_T132 l0_2 x6_1).f6)))) := ⟨zs2 HB GE223 GE232⟩
   (try clear HO_3)
   (try clear HO_4)
   (try clear BK223)
   (try clear BK232)
   (try clear HB)
   generalize (((((((w17.setCell ⟨gb232, 0, none⟩ (.int .i64 ((rd_T132 l0_2 x6_1).f0))).setCell ⟨gb232, 1, none⟩ (.int .i64 ((rd_T132 l0_2 x6_1).f1))).setCell ⟨gb232, 2, none⟩ (.int .i64 ((rd_T132 l0_2 x6_1).f2))).setCell ⟨gb232, 3, none⟩ (.int .i64 ((rd_T132 l0_2 x6_1).f3))).setCell ⟨gb232, 4, none⟩ (.int .i64 ((rd_T132 l0_2 x6_1).f4))).setCell ⟨gb232, 5, none⟩ (.int .i64 ((rd_T132 l0_2 x6_1).f5))).setCell ⟨gb232, 6, none⟩ (.bool ((rd_T132 l0_2 x6_1).f6))) = w20 at n0_ n1_ n2_ n3_ n4_ ⊢
   have HO_3 := n0_
   have HO_4 := n1_
   have BK223 := n2_
   have BK232 := n3_
   have HB := n4_
   clear n0_ n1_ n2_ n3_ n4_
   have n0_ := zA (Kd.R_drew HO_3.out)
   have n1_ := zA (Kd.R_drew HO_4.out)
   have n2_ := zA (blk_drew BK223.out)
   have n3_ := zA (blk_drew BK232.out)
   have n4_ := zA (below_drew1 HB.out)
   clear HO_3 HO_4 BK223 BK232 HB
   revert n0_ n1_ n2_ n3_ n4_
   intro HO_3 HO_4 BK223 BK232 HB
   obtain ⟨Ao22, co22, eo22⟩ := Kd.R_slice HO_4.out
   (first | subst eo22 | (injection eo22 with f1_ f2_ f3_; have f4_ := f1_.symm; have f5_ := f3_.symm; clear f1_ f2_ f3_; subst f4_; subst f5_))
   have p233 : 0 ≤ (x6_1 : Int) := za
   have q233 : x6_1 < (t227.length : Int) := za
   obtain ⟨ad233, e233, hx233_0, hx233_1⟩ := at_T110 (Kd.R_reads' HO_4.out).2.2 x6_1 p233 q233
   cases e233
   replace p233 := eq_true p233
   replace q233 := eq_true q233
   have p234 : 0 ≤ ((ji12) : Int) := za
   have q234 : (ji12) < (t227.length : Int) := za
   obtain ⟨ad234, e234, hx234_0, hx234_1⟩ := at_T110 (Kd.R_reads' HO_4.out).2.2 (ji12) p234 q234
   obtain rfl : ad233 = ad234 := (by injection e234)
   replace p234 := eq_true p234
   replace q234 := eq_true q234
   refine start_ (n := 25) (S := fun w' => w'.cell? ⟨gb232, 0, none⟩ = some (.int .i64 ((rd_T132 l0_2 x6_1).f0)) ∧ w'.cell? ⟨gb232, 1, none⟩ = some (.int .i64 ((rd_T132 l0_2 x6_1).f1)) ∧ w'.cell? ⟨gb232, 2, none⟩ = some (.int .i64 ((rd_T132 l0_2 x6_1).f2)) ∧ w'.cell? ⟨gb232, 3, none⟩ = some (.int .i64 ((rd_T132 l0_2 x6_1).f3)) ∧ w'.cell? ⟨gb232, 4, none⟩ = some (.int .i64 ((rd_T132 l0_2 x6_1).f4)) ∧ w'.cell? ⟨gb232, 5, none⟩ = some (.int .i64 ((rd_T132 l0_2 x6_1).f5)) ∧ w'.cell? ⟨gb232, 6, none⟩ = some (.bool ((rd_T132 l0_2 x6_1).f6)) ∧ w'.cell? (ad233.add ((x6_1).toNat * 2)) = some (.int .i64 ((rd_T110 t227 x6_1).f0)) ∧ w'.cell? ⟨(ad233.add ((x6_1).toNat * 2)).block, (ad233.add ((x6_1).toNat * 2)).off + 1, none⟩ = some (.int .i64 ((rd_T110 t227 x6_1).f1)) ∧ w'.cell? (ad233.add (((ji12)).toNat * 2)) = some (.int .i64 ((rd_T110 t227 (ji12)).f0)) ∧ w'.cell? ⟨(ad233.add (((ji12)).toNat * 2)).block, (ad233.add (((ji12)).toNat * 2)).off + 1, none⟩ = some (.int .i64 ((rd_T110 t227 (ji12)).f1))) (ds := [22, 23]) #[F,F,F,F,F,F,F,F,F,F,F,F,F,F,F,F,F,F,F,F,F,F,F,F,F] (by kernel_rfl) rfl rfl ⟨(blk_cell BK232.out 0).trans rfl, (blk_cell BK232.out 1).trans rfl, (blk_cell BK232.out 2).trans rfl, (blk_cell BK232.out 3).trans rfl, (blk_cell BK232.out 4).trans rfl, (blk_cell BK232.out 5).trans rfl, (blk_cell BK232.out 6).trans rfl, hx233_0, hx233_1, hx234_0, hx234_1⟩ (fun hHeld => ?_); refine with_tabW spec_FlyTube.tab7 spec_FlyTube.bits7 (fun HT_ HW_ => ?_)
   generalize w20.drew = w21 at HO_3 HO_4 BK223 BK232 HB hx233_0 hx233_1 hx234_0 hx234_1 hHeld ⊢
   refine pure_ (i := 0) (N := some 29) (v := ?_) (a' := ?_) #[T,F,F,F,F,F,F,F,F,F,F,F,F,F,F,F,F,F,F,F,F,F,F,F,F] rfl rfl (any_of HT_.out (by kernel_rfl)) (fun _ _ _ h => h) (Or.inl ⟨by rfl, ?_⟩) ?_ ?_; rotate_left; exact zy; rotate_left; exact zput
   refine pure_ (i := 1) (N := some 30) (v := ?_) (a' := ?_) #[T,T,F,F,F,F,F,F,F,F,F,F,F,F,F,F,F,F,F,F,F,F,F,F,F] rfl rfl (any_of HT_.out (by kernel_rfl)) (fun _ _ _ h => h) (Or.inl ⟨by rfl, ?_⟩) ?_ ?_; rotate_left; exact zy; rotate_left; exact zput
   refine pure_ (i := 3) (N := some 32) (v := ?_) (a' := ?_) #[T,T,F,T,F,F,F,F,F,F,F,F,F,F,F,F,F,F,F,F,F,F,F,F,F] rfl rfl (any_of HT_.out (by kernel_rfl)) (fun _ _ _ h => h) (Or.inl ⟨by rfl, ?_⟩) ?_ ?_; rotate_left; exact zy; rotate_left; exact zput
   refine pure_ (i := 5) (N := some 34) (v := ?_) (a' := ?_) #[T,T,F,T,F,T,F,F,F,F,F,F,F,F,F,F,F,F,F,F,F,F,F,F,F] rfl rfl (any_of HT_.out (by kernel_rfl)) (fun _ _ _ h => h) (Or.inl ⟨by rfl, ?_⟩) ?_ ?_; rotate_left; exact zy; rotate_left; exact zput
   refine pure_ (i := 7) (N := some 36) (v := ?_) (a' := ?_) #[T,T,F,T,F,T,F,T,F,F,F,F,F,F,F,F,F,F,F,F,F,F,F,F,F] rfl rfl (any_of HT_.out (by kernel_rfl)) (fun _ _ _ h => h) (Or.inl ⟨by rfl, ?_⟩) ?_ ?_; rotate_left; exact zy; rotate_left; exact zput
   refine pure_ (i := 9) (N := some 38) (v := ?_) (a' := ?_) #[T,T,F,T,F,T,F,T,F,T,F,F,F,F,F,F,F,F,F,F,F,F,F,F,F] rfl rfl (any_of HT_.out (by kernel_rfl)) (fun _ _ _ h => h) (Or.inl ⟨by rfl, ?_⟩) ?_ ?_; rotate_left; exact zy; rotate_left; exact zput
   refine pure_ (i := 10) (N := some 39) (v := ?_) (a' := ?_) #[T,T,F,T,F,T,F,T,F,T,T,F,F,F,F,F,F,F,F,F,F,F,F,F,F] rfl rfl (any_of HT_.out (by kernel_rfl)) (fun _ _ _ h => h) (Or.inl ⟨by rfl, ?_⟩) ?_ ?_; rotate_left; exact zy; rotate_left; exact zput
   refine pure_ (i := 11) (N := some 40) (v := ?_) (a' := ?_) #[T,T,F,T,F,T,F,T,F,T,T,T,F,F,F,F,F,F,F,F,F,F,F,F,F] rfl rfl (any_of HT_.out (by kernel_rfl)) (fun _ _ _ h => h) (Or.inl ⟨by rfl, ?_⟩) ?_ ?_; rotate_left; exact zy; rotate_left; exact zput
   refine pure_ (i := 12) (N := some 41) (v := ?_) (a' := ?_) #[T,T,F,T,F,T,F,T,F,T,T,T,T,F,F,F,F,F,F,F,F,F,F,F,F] rfl rfl (any_of HT_.out (by kernel_rfl)) (fun _ _ _ h => h) (Or.inl ⟨by rfl, ?_⟩) ?_ ?_; rotate_left; exact zy; rotate_left; exact zput
   refine pure_ (i := 14) (N := some 43) (v := ?_) (a' := ?_) #[T,T,F,T,F,T,F,T,F,T,T,T,T,F,T,F,F,F,F,F,F,F,F,F,F] rfl rfl (any_of HT_.out (by kernel_rfl)) (fun _ _ _ h => h) (Or.inl ⟨by rfl, ?_⟩) ?_ ?_; rotate_left; exact zy; rotate_left; exact zput
   refine pure_ (i := 15) (N := some 44) (v := ?_) (a' := ?_) #[T,T,F,T,F,T,F,T,F,T,T,T,T,F,T,T,F,F,F,F,F,F,F,F,F] rfl rfl (any_of HT_.out (by kernel_rfl)) (fun _ _ _ h => h) (Or.inl ⟨by rfl, ?_⟩) ?_ ?_; rotate_left; exact zy; rotate_left; exact zput
   refine pure_ (i := 16) (N := some 45) (v := ?_) (a' := ?_) #[T,T,F,T,F,T,F,T,F,T,T,T,T,F,T,T,T,F,F,F,F,F,F,F,F] rfl rfl (any_of HT_.out (by kernel_rfl)) (fun _ _ _ h => h) (Or.inl ⟨by rfl, ?_⟩) ?_ ?_; rotate_left; exact zy; rotate_left; exact zput
   refine pure_ (i := 17) (N := some 46) (v := ?_) (a' := ?_) #[T,T,F,T,F,T,F,T,F,T,T,T,T,F,T,T,T,T,F,F,F,F,F,F,F] rfl rfl (any_of HT_.out (by kernel_rfl)) (fun _ _ _ h => h) (Or.inl ⟨by rfl, ?_⟩) ?_ ?_; rotate_left; exact zy; rotate_left; exact zput
   refine pure_ (i := 18) (N := some 47) (v := ?_) (a' := ?_) #[T,T,F,T,F,T,F,T,F,T,T,T,T,F,T,T,T,T,T,F,F,F,F,F,F] rfl rfl (any_of HT_.out (by kernel_rfl)) (fun _ _ _ h => h) (Or.inl ⟨by rfl, ?_⟩) ?_ ?_; rotate_left; exact zy; rotate_left; exact zput
   refine take_ (i := 2) (N := some 31) (v := ?_) (a' := ?_) #[T,T,T,T,F,T,F,T,F,T,T,T,T,F,T,T,T,T,T,F,F,F,F,F,F] rfl rfl (take_ofW HT_.out HW_.out (by kernel_rfl)) (fun _ _ _ h => h) (Or.inl ⟨by rfl, ?_⟩) hHeld ?_ ?_; rotate_left; exact zt11; rotate_left; exact zput
   refine take_ (i := 4) (N := some 33) (v := ?_) (a' := ?_) #[T,T,T,T,T,T,F,T,F,T,T,T,T,F,T,T,T,T,T,F,F,F,F,F,F] rfl rfl (take_ofW HT_.out HW_.out (by kernel_rfl)) (fun _ _ _ h => h) (Or.inl ⟨by rfl, ?_⟩) hHeld ?_ ?_; rotate_left; exact zt11; rotate_left; exact zput
   refine take_ (i := 6) (N := some 35) (v := ?_) (a' := ?_) #[T,T,T,T,T,T,T,T,F,T,T,T,T,F,T,T,T,T,T,F,F,F,F,F,F] rfl rfl (take_ofW HT_.out HW_.out (by kernel_rfl)) (fun _ _ _ h => h) (Or.inl ⟨by rfl, ?_⟩) hHeld ?_ ?_; rotate_left; exact zt11; rotate_left; exact zput
   refine take_ (i := 8) (N := some 37) (v := ?_) (a' := ?_) #[T,T,T,T,T,T,T,T,T,T,T,T,T,F,T,T,T,T,T,F,F,F,F,F,F] rfl rfl (take_ofW HT_.out HW_.out (by kernel_rfl)) (fun _ _ _ h => h) (Or.inl ⟨by rfl, ?_⟩) hHeld ?_ ?_; rotate_left; exact zt11; rotate_left; exact zput
   refine take_ (i := 13) (N := some 42) (v := ?_) (a' := ?_) #[T,T,T,T,T,T,T,T,T,T,T,T,T,T,T,T,T,T,T,F,F,F,F,F,F] rfl rfl (take_ofW HT_.out HW_.out (by kernel_rfl)) (fun _ _ _ h => h) (Or.inl ⟨by rfl, ?_⟩) hHeld ?_ ?_; rotate_left; exact zt11; rotate_left; exact zput
   refine take_ (i := 19) (N := some 48) (v := ?_) (a' := ?_) #[T,T,T,T,T,T,T,T,T,T,T,T,T,T,T,T,T,T,T,T,F,F,F,F,F] rfl rfl (take_ofW HT_.out HW_.out (by kernel_rfl)) (fun _ _ _ h => h) (Or.inl ⟨by rfl, ?_⟩) hHeld ?_ ?_; rotate_left; exact zt11; rotate_left; exact zput
   refine pure_ (i := 20) (N := some 49) (v := ?_) (a' := ?_) #[T,T,T,T,T,T,T,T,T,T,T,T,T,T,T,T,T,T,T,T,T,F,F,F,F] rfl rfl (any_of HT_.out (by kernel_rfl)) (fun _ _ _ h => h) (Or.inl ⟨by rfl, ?_⟩) ?_ ?_; rotate_left; exact zy; rotate_left; exact zput
   refine pure_ (i := 21) (N := some 50) (v := ?_) (a' := ?_) #[T,T,T,T,T,T,T,T,T,T,T,T,T,T,T,T,T,T,T,T,T,T,F,F,F] rfl rfl (any_of HT_.out (by kernel_rfl)) (fun _ _ _ h => h) (Or.inl ⟨by rfl, ?_⟩) ?_ ?_; rotate_left; exact zy; rotate_left; exact zput
   refine last_ (i := 22) (N := some 51) #[T,T,T,T,T,T,T,T,T,T,T,T,T,T,T,T,T,T,T,T,T,T,T,F,F] rfl rfl (one_of HT_.out (by kernel_rfl)) (by decide) (fun K hK => ?_)
   refine value_ (w1 := ?_) (v := ?_) (by rfl) rfl ?_ ?_
   rotate_left 2
   ·go_simp
    constructor
    ·rfl
    ·rfl
   refine hK.out _ _ ?_
   clear hK K
   refine norm_ (a' := ?_) ?_ ?_
   rotate_left
   ·show Act.put _ (some 51) _ = _
    simp only [Act.put, List.setIfInBounds_toArray, List.set_cons_zero, List.set_cons_succ, i64_w, i32_w]
    rfl
   refine last_ (i := 23) (N := some 52) #[T,T,T,T,T,T,T,T,T,T,T,T,T,T,T,T,T,T,T,T,T,T,T,T,F] rfl rfl (one_of HT_.out (by kernel_rfl)) (by decide) (fun K hK => ?_)
   refine Kd.R_append_step k112 (w0 := w) w.heap.size (by rfl) (.tmp 29) (.tmp 51) 96 112 (.agg #[(.int .i64 0), (.int .i64 0), (.int .i64 0), (.int .i64 0), (.int .i64 0), (.int .i64 0)]) 48 rfl Try.underlying96 info112 rfl (by decide) (by omega) u3 x3_1 (⟨(rd_T132 l0_2 x6_1).f0, (rd_T132 l0_2 x6_1).f1, (rd_T132 l0_2 x6_1).f2, (rd_T132 l0_2 x6_1).f3, (rd_T110 t227 x6_1).f0, wrap64 (((rd_T110 t227 (ji12)).f1) - 1)⟩ : S112) [.int .i64 ((rd_T132 l0_2 x6_1).f0), .int .i64 ((rd_T132 l0_2 x6_1).f1), .int .i64 ((rd_T132 l0_2 x6_1).f2), .int .i64 ((rd_T132 l0_2 x6_1).f3), .int .i64 ((rd_T110 t227 x6_1).f0), .int .i64 (wrap64 (((rd_T110 t227 (ji12)).f1) - 1))] (fun _ => True) (fun _ => False) rfl rfl ?aP (fun _ hk => hk.elim) ?aF ?aO ?aB ?aS ?aL ?_
   (case aP => exact k112_mkM _ _ _ (⟨(rd_T132 l0_2 x6_1).f0, (rd_T132 l0_2 x6_1).f1, (rd_T132 l0_2 x6_1).f2, (rd_T132 l0_2 x6_1).f3, (rd_T110 t227 x6_1).f0, wrap64 (((rd_T110 t227 (ji12)).f1) - 1)⟩ : S112))
   (case aB => exact (zs2 HB GE223 GE232))
   (case aF => exact (fun _ _ => trivial))
   (case aO => exact (zr HO_3))
   (case aS => exact (below_size (zs2 HB GE223 GE232)))
   (case aL => have := LMc15.out; omega)
   intro v236 w23 ho hb hg hat
   rw [← Ny235.out] at ho
   have n0_ := zA (Kd.R_over' (zr HO_4) (Kd.R_typed (zr HO_3)) (by decide) hg)
   have n1_ := zA (blk_grown (g := gb223) (o := .cells #[.int .i64 a0_0, .int .i64 a0_1, .slice (some ad231) l0_2.length c0_2, .int .i64 a0_3, .int .i64 a0_4] 68 (0, 0)) (zh BK223) hg (Kd.R_ne HO_3.out BK223.out (by decide)))
   have n2_ := zA (blk_grown (g := gb232) (o := .cells #[.int .i64 ((rd_T132 l0_2 x6_1).f0), .int .i64 ((rd_T132 l0_2 x6_1).f1), .int .i64 ((rd_T132 l0_2 x6_1).f2), .int .i64 ((rd_T132 l0_2 x6_1).f3), .int .i64 ((rd_T132 l0_2 x6_1).f4), .int .i64 ((rd_T132 l0_2 x6_1).f5), .bool ((rd_T132 l0_2 x6_1).f6)] 132 (0, 0)) (zh BK232) hg (Kd.R_ne HO_3.out BK232.out (by decide)))
   have n3_ := zA (hb)
   have n4_ := zA (ho)
   clear HO_4
   clear BK223
   clear BK232
   clear HB
   clear HO_3
   have HO_4 := n0_
   have BK223 := n1_
   have BK232 := n2_
   have HB := n3_
   have HO237 := n4_
   clear n0_ n1_ n2_ n3_ n4_
   clear ho hb hg hat
   refine hK.out _ _ ?_
   clear hK K
   refine norm_ (a' := ?_) ?_ ?_
   rotate_left
   ·show Act.put _ (some 52) _ = _
    simp only [Act.put, List.setIfInBounds_toArray, List.set_cons_zero, List.set_cons_succ, i64_w, i32_w]
    rfl
   refine pure_ (i := 24) (N := some 3) (v := ?_) (a' := ?_) #[T,T,T,T,T,T,T,T,T,T,T,T,T,T,T,T,T,T,T,T,T,T,T,T,T] rfl rfl (any_of HT_.out (by kernel_rfl)) (fun _ _ _ h => h) (Or.inl ⟨by rfl, ?_⟩) ?_ ?_; rotate_left; exact zy; rotate_left; exact zput
   refine done_ (done_of HT_.out (by kernel_rfl)) ?_
   try go_wp2
   go_roundg k1
   case measure => have := HK1.out; omega
   case rel => exact ⟨(y235), (ji12), (by first | rfl | (simp; done) | (simp only [← hji12] <;> (first | rfl | simp)) | (simp [*]; done)), H', ⟨by have := HK1.out; omega⟩, ⟨zr HO237⟩, ⟨zr HO_4⟩, ⟨zh BK223⟩, ⟨zs2 HB GE223 GE232⟩⟩
def impl_within.f (a0 : Int) (a1 : Int) (a2 : Int) : Option (Bool) := if a0 ≥ a1 then (some (decide (a0 ≤ a2))) else (some false)
set_option maxHeartbeats 8000000 in
set_option maxRecDepth 100000 in
theorem impl_within.calls (a0 : Int) (a1 : Int) (a2 : Int) (r : Bool) (w : World) (h : impl_within.f a0 a1 a2 = some r) :
 Calls Try.prog 93 #[.int .i64 a0, .int .i64 a1, .int .i64 a2] w fun e w' => e = .returned (.bool r) ∧ Drawn0 w w' := by
 have H : (if a0 ≥ a1 then (some (decide (a0 ≤ a2))) else (some false)) = some r := h
 clear h
 by_cases c4 : a0 ≥ a1
 ·rw [if_pos c4] at H
  have c4b0 : decide (a1 ≤ a0) = true := decide_eq_true c4
  clear c4
  obtain rfl := Option.some.inj H
  go_enter Try.func93, Try.ntmps93
  go_wp2
  go_ret
  exact ⟨by first | rfl | (simp; done) | (simp [*]; done), by repeat (first | exact Drawn0.refl _ | apply Drawn0.step)⟩
 rw [if_neg c4] at H
 have c4b0 : decide (a1 ≤ a0) = false := decide_eq_false c4
 clear c4
 obtain rfl := Option.some.inj H
 go_enter Try.func93, Try.ntmps93
 go_wp2
 go_ret
 exact ⟨by first | rfl | (simp; done) | (simp [*]; done), by repeat (first | exact Drawn0.refl _ | apply Drawn0.step)⟩
def impl_dist.f (a0 : Int) (a1 : Int) : Option (Int) := if a0 > a1 then (some (wrap64 (a0 - a1))) else (some (wrap64 (a1 - a0)))
set_option maxHeartbeats 8000000 in
set_option maxRecDepth 100000 in
theorem impl_dist.calls (a0 : Int) (a1 : Int) (r : Int) (w : World) (h : impl_dist.f a0 a1 = some r) :
 Calls Try.prog 111 #[.int .i64 a0, .int .i64 a1] w fun e w' => e = .returned (.int .i64 r) ∧ Drawn0 w w' := by
 have H : (if a0 > a1 then (some (wrap64 (a0 - a1))) else (some (wrap64 (a1 - a0)))) = some r := h
 clear h
 by_cases c3 : a0 > a1
 ·rw [if_pos c3] at H
  have c3b0 : decide (a1 < a0) = true := decide_eq_true c3
  clear c3
  obtain rfl := Option.some.inj H
  go_enter Try.func111, Try.ntmps111
  go_wp2
  go_ret
  exact ⟨by first | rfl | (simp; done) | (simp [*]; done), by repeat (first | exact Drawn0.refl _ | apply Drawn0.step)⟩
 rw [if_neg c3] at H
 have c3b0 : decide (a1 < a0) = false := decide_eq_false c3
 clear c3
 obtain rfl := Option.some.inj H
 go_enter Try.func111, Try.ntmps111
 go_wp2
 go_ret
 exact ⟨by first | rfl | (simp; done) | (simp [*]; done), by repeat (first | exact Drawn0.refl _ | apply Drawn0.step)⟩
def impl_FlyKindOk.f (a0_0 : Int) (a0_1 : Int) : Option (Bool) := if 1 ≤ a0_0 then (if a0_0 ≤ a0_1 then (some (decide (a0_1 ≤ 50))) else (some false)) else (some false)
set_option maxHeartbeats 8000000 in
set_option maxRecDepth 100000 in
theorem impl_FlyKindOk.calls (a0_0 : Int) (a0_1 : Int) (r : Bool) (w : World) (h : impl_FlyKindOk.f a0_0 a0_1 = some r) :
 Calls Try.prog 142 #[.agg #[.int .i64 a0_0, .int .i64 a0_1]] w fun e w' => e = .returned (.bool r) ∧ Below w.heap.size w w' := by
 have hu44 := Try.underlying44
 have HB := zA (Below.refl w.heap.size w)
 have H : (if 1 ≤ a0_0 then (if a0_0 ≤ a0_1 then (some (decide (a0_1 ≤ 50))) else (some false)) else (some false)) = some r := h
 clear h
 by_cases c2 : 1 ≤ a0_0
 rotate_left
 ·rw [if_neg c2] at H
  have c2b0 : decide (1 ≤ a0_0) = false := decide_eq_false c2
  clear c2
  obtain rfl := Option.some.inj H
  go_enter Try.func142, Try.ntmps142
  go_wp2_with (first | ((with_reducible refine gate_dst (N := 1) rfl ?_); refine box_event (by rfl) (N := 1) (by rfl) (cs := #[.int .i64 a0_0, .int .i64 a0_1]) (t := 44) zg ?_; intro gb238 hg w8 hbox hb; have n0_ := zA (below_step (zs0 HB) hb); have n1_ := zA (hbox); have n2_ := zA ((by rw [hg]; exact (below_size (zs0 HB)) : w.heap.size ≤ gb238)); have n3_ := zA ((by rw [hg]; exact (below_size (zs0 HB)) : w.heap.size ≤ gb238)); clear HB; have HB := n0_; have BK238 := n1_; have GW238 := n2_; have GE238 := n3_; clear n0_ n1_ n2_ n3_; clear hb hbox hg; obtain ⟨hcz9_0, hcz9_1⟩ := zd2 BK238; obtain ⟨hfz9_0, hfz9_1⟩ := zn2 BK238))
  go_ret
  exact ⟨ze, zs1 HB GE238⟩
 rw [if_pos c2] at H
 have c2b0 : decide (1 ≤ a0_0) = true := decide_eq_true c2
 clear c2
 by_cases c3 : a0_0 ≤ a0_1
 ·rw [if_pos c3] at H
  have c3b0 : decide (a0_0 ≤ a0_1) = true := decide_eq_true c3
  clear c3
  obtain rfl := Option.some.inj H
  go_enter Try.func142, Try.ntmps142
  go_wp2_with (first | ((with_reducible refine gate_dst (N := 1) rfl ?_); refine box_event (by rfl) (N := 1) (by rfl) (cs := #[.int .i64 a0_0, .int .i64 a0_1]) (t := 44) zg ?_; intro gb238 hg w4 hbox hb; have n0_ := zA (below_step (zs0 HB) hb); have n1_ := zA (hbox); have n2_ := zA ((by rw [hg]; exact (below_size (zs0 HB)) : w.heap.size ≤ gb238)); have n3_ := zA ((by rw [hg]; exact (below_size (zs0 HB)) : w.heap.size ≤ gb238)); clear HB; have HB := n0_; have BK238 := n1_; have GW238 := n2_; have GE238 := n3_; clear n0_ n1_ n2_ n3_; clear hb hbox hg; obtain ⟨hcz5_0, hcz5_1⟩ := zd2 BK238; obtain ⟨hfz5_0, hfz5_1⟩ := zn2 BK238))
  go_ret
  exact ⟨ze, zs1 HB GE238⟩
 rw [if_neg c3] at H
 have c3b0 : decide (a0_0 ≤ a0_1) = false := decide_eq_false c3
 clear c3
 obtain rfl := Option.some.inj H
 go_enter Try.func142, Try.ntmps142
 go_wp2_with (first | ((with_reducible refine gate_dst (N := 1) rfl ?_); refine box_event (by rfl) (N := 1) (by rfl) (cs := #[.int .i64 a0_0, .int .i64 a0_1]) (t := 44) zg ?_; intro gb238 hg w6 hbox hb; have n0_ := zA (below_step (zs0 HB) hb); have n1_ := zA (hbox); have n2_ := zA ((by rw [hg]; exact (below_size (zs0 HB)) : w.heap.size ≤ gb238)); have n3_ := zA ((by rw [hg]; exact (below_size (zs0 HB)) : w.heap.size ≤ gb238)); clear HB; have HB := n0_; have BK238 := n1_; have GW238 := n2_; have GE238 := n3_; clear n0_ n1_ n2_ n3_; clear hb hbox hg; obtain ⟨hcz7_0, hcz7_1⟩ := zd2 BK238; obtain ⟨hfz7_0, hfz7_1⟩ := zn2 BK238))
 go_ret
 exact ⟨ze, zs1 HB GE238⟩
def impl_window.f (a0 : Int) (a1 : Int) : Option (Bool) := if 0 ≤ a0 then (if a0 ≤ a1 then (some (decide (a1 ≤ 10000))) else (some false)) else (some false)
set_option maxHeartbeats 8000000 in
set_option maxRecDepth 100000 in
theorem impl_window.calls (a0 : Int) (a1 : Int) (r : Bool) (w : World) (h : impl_window.f a0 a1 = some r) :
 Calls Try.prog 143 #[.int .i64 a0, .int .i64 a1] w fun e w' => e = .returned (.bool r) ∧ Drawn0 w w' := by
 have H : (if 0 ≤ a0 then (if a0 ≤ a1 then (some (decide (a1 ≤ 10000))) else (some false)) else (some false)) = some r := h
 clear h
 by_cases c3 : 0 ≤ a0
 rotate_left
 ·rw [if_neg c3] at H
  have c3b0 : decide (0 ≤ a0) = false := decide_eq_false c3
  clear c3
  obtain rfl := Option.some.inj H
  go_enter Try.func143, Try.ntmps143
  go_wp2
  go_ret
  exact ⟨by first | rfl | (simp; done) | (simp [*]; done), by repeat (first | exact Drawn0.refl _ | apply Drawn0.step)⟩
 rw [if_pos c3] at H
 have c3b0 : decide (0 ≤ a0) = true := decide_eq_true c3
 clear c3
 by_cases c4 : a0 ≤ a1
 ·rw [if_pos c4] at H
  have c4b0 : decide (a0 ≤ a1) = true := decide_eq_true c4
  clear c4
  obtain rfl := Option.some.inj H
  go_enter Try.func143, Try.ntmps143
  go_wp2
  go_ret
  exact ⟨by first | rfl | (simp; done) | (simp [*]; done), by repeat (first | exact Drawn0.refl _ | apply Drawn0.step)⟩
 rw [if_neg c4] at H
 have c4b0 : decide (a0 ≤ a1) = false := decide_eq_false c4
 clear c4
 obtain rfl := Option.some.inj H
 go_enter Try.func143, Try.ntmps143
 go_wp2
 go_ret
 exact ⟨by first | rfl | (simp; done) | (simp [*]; done), by repeat (first | exact Drawn0.refl _ | apply Drawn0.step)⟩
end Go.Proofs.Ytbmplfpnhjhoiaa.QFnExactFlyTube
