/- The walk of what the law FnExactFlyRest reaches: laid by a program of this session (ownprint.py). -/
import Derived.Test.YtbmplfpnhjhoiaaQFnExactFlyRestx0
import Derived.Test.YtbmplfpnhjhoiaaQFnExactFlyRestx3
import Derived.Test.YtbmplfpnhjhoiaaQFnExactFlyRestx4
import Derived.Test.YtbmplfpnhjhoiaaQFnExactFlyRestx5
import Derived.Test.YtbmplfpnhjhoiaaQFnExactFlyRestx6
import Derived.Test.YtbmplfpnhjhoiaaQFnExactFlyRestx9
namespace Go.Proofs.Ytbmplfpnhjhoiaa.QFnExactFlyRest
open Go.RowKit Go.Proofs.YtbmplfpnhjhoiaaW.PrintWords Go.Proofs.YtbmplfpnhjhoiaaW.PrintLast Go.Proofs.YtbmplfpnhjhoiaaW.PrintMore Go.Proofs.Ytbmplfpnhjhoiaa.Z
attribute [local go_sem] max2_int min2_int max_two min_two max_three min_three max_four min_four zdn   -- for this text's walks alone
set_option linter.unusedVariables false
set_option linter.unusedSimpArgs false
def spec_FlyRest.j0 : Nat → Int → Int → Int → Bool → Int → Int → List (S132) → Int → Int → Option (Int × Int × (List (S132)) × Int × Int × Bool)
 | 0, _, _, _, _, _, _, _, _, _ => none
 | k + 1, x1, x2, x3, x32, x278000, x278001, x278002, x278003, x278004 => if x32 = true then (some (0, 0, ([] : List (S132)), 0, 0, false)) else ((spec_l26Held.f k x278000 x278001 x278002 x278003 x278004 (([] : List Int))).bind fun bt285 => ((spec_l27Tail.f bt285.1 bt285.2.1 bt285.2.2.1 bt285.2.2.2.1 bt285.2.2.2.2 x1).bind fun bt292 => (if 0 < (bt292.2.2.1.length : Int) then ((spec_l21Max.f ((rd_T132 bt292.2.2.1 0).f4) x2).bind fun t301 => ((some (bt292.2.2.1.set (0 : Int).toNat (⟨(rd_T132 bt292.2.2.1 0).f0, (rd_T132 bt292.2.2.1 0).f1, (rd_T132 bt292.2.2.1 0).f2, (rd_T132 bt292.2.2.1 0).f3, t301, (rd_T132 bt292.2.2.1 0).f5, (rd_T132 bt292.2.2.1 0).f6⟩ : S132) : List (S132))).bind fun y302 => ((spec_l21Min.f ((rd_T132 y302 0).f5) x2).bind fun t304 => ((spec_l27After.f bt292.1 bt292.2.1 (y302.set (0 : Int).toNat (⟨(rd_T132 y302 0).f0, (rd_T132 y302 0).f1, (rd_T132 y302 0).f2, (rd_T132 y302 0).f3, (rd_T132 y302 0).f4, t304, (rd_T132 y302 0).f6⟩ : S132)) bt292.2.2.2.1 bt292.2.2.2.2 x3).bind fun bt306 => ((spec_l27Can.f k bt306.1 bt306.2.1 bt306.2.2.1 bt306.2.2.2.1 bt306.2.2.2.2).bind fun bt313 => (some (bt313.1, bt313.2.1, bt313.2.2.1, bt313.2.2.2.1, bt313.2.2.2.2.1, bt313.2.2.2.2.2))))))) else (none))))
def spec_FlyRest.f (k : Nat) (a0_0 : Int) (a0_1 : Int) (l0_2 : List (S132)) (a0_3 : Int) (a0_4 : Int) (a1 : Int) (a2 : Int) (a3 : Int) : Option (Int × Int × (List (S132)) × Int × Int × Bool) := (spec_FlyPathOk.f k a0_0 a0_1 l0_2 a0_3 a0_4).bind fun t279 => (if t279 = true then ((spec_l21In.f a1 0 (wrap64 ((l0_2.length : Int) - 1))).bind fun t280 => (if t280 = true then ((spec_l21In.f a3 a2 10000).bind fun t281 => (if t281 = true then (spec_FlyRest.j0 k a1 a2 a3 (decide (a2 < 0)) a0_0 a0_1 l0_2 a0_3 a0_4) else (spec_FlyRest.j0 k a1 a2 a3 true a0_0 a0_1 l0_2 a0_3 a0_4))) else (spec_FlyRest.j0 k a1 a2 a3 true a0_0 a0_1 l0_2 a0_3 a0_4))) else (spec_FlyRest.j0 k a1 a2 a3 true a0_0 a0_1 l0_2 a0_3 a0_4))
def spec_FlyRest.T4 : Bool × List (List Nat × List Nat) := (true, [([], []), ([0], [0]), ([], []), ([2], [2]), ([3], [3]), ([4], [4]), ([5], [5]), ([], []), ([6, 7], [6, 7]), ([1, 0, 1, 2, 3, 4, 5, 6, 7, 8], [1]), ([9, 0, 1, 2, 3, 4, 5, 6, 7, 8], [9]), ([10, 8, 8, 0, 1, 2, 3, 4, 5, 6, 7, 8], [8, 10])])
def spec_FlyRest.B4 : List Nat := [0, 1, 0, 4, 12, 28, 60, 0, 252, 511, 1023, 2047]
theorem spec_FlyRest.tab4 : rtab .any (opsOf Try.f71 4) = spec_FlyRest.T4 := by kernel_rfl
theorem spec_FlyRest.bits4 : waitsOk spec_FlyRest.T4.2 spec_FlyRest.B4 = true := by kernel_rfl
def spec_FlyRest.T5 : Bool × List (List Nat × List Nat) := (true, [([], []), ([0], [0]), ([], []), ([2], [2]), ([3], [3]), ([4], [4]), ([5], [5]), ([], []), ([6, 7], [6, 7]), ([1, 0, 1, 2, 3, 4, 5, 6, 7, 8], [1]), ([9, 0, 1, 2, 3, 4, 5, 6, 7, 8], [9]), ([10, 8, 8, 0, 1, 2, 3, 4, 5, 6, 7, 8], [8, 10])])
def spec_FlyRest.B5 : List Nat := [0, 1, 0, 4, 12, 28, 60, 0, 252, 511, 1023, 2047]
theorem spec_FlyRest.tab5 : rtab .any (opsOf Try.f71 5) = spec_FlyRest.T5 := by kernel_rfl
theorem spec_FlyRest.bits5 : waitsOk spec_FlyRest.T5.2 spec_FlyRest.B5 = true := by kernel_rfl
set_option maxHeartbeats 8000000 in
set_option maxRecDepth 100000 in
theorem spec_FlyRest.calls (k : Nat) (a0_0 : Int) (a0_1 : Int) (A0_2 : Option Addr) (c0_2 : Nat) (l0_2 : List (S132)) (a0_3 : Int) (a0_4 : Int) (a1 : Int) (a2 : Int) (a3 : Int) (r1 : Int) (r2 : Int) (r3 : List (S132)) (r4 : Int) (r5 : Int) (r6 : Bool) (w : World) (hr0_2 : Kd.C k132 w A0_2 l0_2.length l0_2) (hc0_2 : l0_2.length ≤ c0_2) (h : spec_FlyRest.f k a0_0 a0_1 l0_2 a0_3 a0_4 a1 a2 a3 = some (r1, r2, r3, r4, r5, r6)) :
 Calls Try.prog 71 #[.agg #[.int .i64 a0_0, .int .i64 a0_1, .slice A0_2 l0_2.length c0_2, .int .i64 a0_3, .int .i64 a0_4], .int .i64 a1, .int .i64 a2, .int .i64 a3] w fun e w' => ∃ v2_ : Value, e = .returned (.tuple #[.agg #[.int .i64 r1, .int .i64 r2, v2_, .int .i64 r4, .int .i64 r5], .bool r6]) ∧ Kd.R k132 132 w' w.heap.size (fun _ => True) v2_ r3 ∧ Below w.heap.size w w' := by
 have hu68 := Try.underlying68
 have HR0_2 := zA hr0_2
 have HC0_2 := zA hc0_2
 clear hr0_2 hc0_2
 have HB := zA (Below.refl w.heap.size w)
 have H : ((spec_FlyPathOk.f k a0_0 a0_1 l0_2 a0_3 a0_4).bind fun t279 => (if t279 = true then ((spec_l21In.f a1 0 (wrap64 ((l0_2.length : Int) - 1))).bind fun t280 => (if t280 = true then ((spec_l21In.f a3 a2 10000).bind fun t281 => (if t281 = true then (spec_FlyRest.j0 k a1 a2 a3 (decide (a2 < 0)) a0_0 a0_1 l0_2 a0_3 a0_4) else (spec_FlyRest.j0 k a1 a2 a3 true a0_0 a0_1 l0_2 a0_3 a0_4))) else (spec_FlyRest.j0 k a1 a2 a3 true a0_0 a0_1 l0_2 a0_3 a0_4))) else (spec_FlyRest.j0 k a1 a2 a3 true a0_0 a0_1 l0_2 a0_3 a0_4))) = some (r1, r2, r3, r4, r5, r6) := h
 clear h
 have HC5 := zA H
 clear H
 go_enter Try.func71, Try.ntmps71
 go_upto_region 1 with (first | ((with_reducible refine gate_dst (N := 4) rfl ?_); (try (refine gate_guard (by rfl) ?_; dsimp only)); refine zbx 4 #[.int .i64 a0_0, .int .i64 a0_1, .slice A0_2 l0_2.length c0_2, .int .i64 a0_3, .int .i64 a0_4] 68 ?_; intro gb277 hg w6 hbox hb; have BK277 := zA hbox; have GW277 := zgs hg (zs0 HB); have GE277 := zgs hg (zs0 HB); replace HB := zE (zs0 HB) hb; clear hb hbox hg) | ((with_reducible refine gate_dst (N := 8) rfl ?_); (try (refine gate_guard (by rfl) ?_; dsimp only)); refine zbx 8 #[.int .i64 0, .int .i64 0, .slice none 0 0, .int .i64 0, .int .i64 0] 68 ?_; intro gb278 hg w7 hbox hb; have BK278 := zA hbox; have GW278 := zgs hg (zs1 HB GE277); have GE278 := zgs hg (zs1 HB GE277); have NB277_278 := zne hg BK277; have NB278_277 := znf hg BK277; replace BK277 := zb BK277 hb; replace HB := zE (zs1 HB GE277) hb; clear hb hbox hg))
 (try simp only [Act.put, List.setIfInBounds_toArray, List.set_cons_zero, List.set_cons_succ])
 go_cut [32] (fun v32 wc => ∃ (kq : Nat) (x32_4 : Bool), v32 = .bool x32_4 ∧ Aside0 (spec_FlyRest.j0 kq a1 a2 a3 x32_4 a0_0 a0_1 l0_2 a0_3 a0_4 = some (r1, r2, r3, r4, r5, r6)) ∧ Aside0 (kq ≤ k) ∧ Aside0 (wc.heap[gb277]? = some (.cells #[.int .i64 a0_0, .int .i64 a0_1, (.slice A0_2 l0_2.length c0_2), .int .i64 a0_3, .int .i64 a0_4] 68 (0, 0))) ∧ Aside0 (wc.heap[gb278]? = some (.cells #[.int .i64 0, .int .i64 0, (.slice none 0 0), .int .i64 0, .int .i64 0] 68 (0, 0))) ∧ Aside0 (Below w.heap.size w wc))
 case first =>
  have H := HC5.out
  clear HC5
  replace H := zbd H; obtain ⟨t279, A8, H⟩ := H
  by_cases c9 : t279 = true
  rotate_left
  ·replace c9 := Bool.eq_false_iff.mpr c9
   subst c9
   have H1 : (spec_FlyRest.j0 k a1 a2 a3 true a0_0 a0_1 l0_2 a0_3 a0_4) = some (r1, r2, r3, r4, r5, r6) := by rw [if_neg (show ¬ (false = true) by decide)] at H; exact H
   clear H
   have H := H1
   clear H1
   have H' := zA H
   clear H
   have hnb26 := NB277_278.out
   have hnc26 := NB278_277.out
   obtain ⟨hcz27_0, hcz27_1, hcz27_2, hcz27_3, hcz27_4⟩ := zd5 BK277
   obtain ⟨hfz27_0, hfz27_1, hfz27_2, hfz27_3, hfz27_4⟩ := zn5 BK277
   go_wp2_with (first | ((with_reducible refine gate_callee (f := 75) rfl ?_); refine zgl (N := some 12) Try.func75 #[.agg #[.int .i64 a0_0, .int .i64 a0_1, .slice A0_2 l0_2.length c0_2, .int .i64 a0_3, .int .i64 a0_4]] ?_; (with_reducible refine (spec_FlyPathOk.calls k a0_0 a0_1 _ _ l0_2 a0_3 a0_4 false _ ?side1 ?side2 A8.out).mono ?_); (case side1 => exact zC HR0_2 HB); (case side2 => exact HC0_2.out); rintro e w28 ⟨rfl, hb⟩; refine ⟨_, rfl, ?_⟩; replace BK277 := zb BK277 hb; replace BK278 := zb BK278 hb; replace HB := zE (zs2 HB GE277 GE278) hb; (try clear hb); (try clear hb2); (try clear hk); (try clear hi)))
   go_meet
   case rel => exact ⟨_, (true), zi, H', ⟨by first | omega | exact Nat.le_refl _⟩, ⟨zh BK277⟩, ⟨zh BK278⟩, ⟨zs2 HB GE277 GE278⟩⟩
  subst c9
  have H1 : ((spec_l21In.f a1 0 (wrap64 ((l0_2.length : Int) - 1))).bind fun t280 => (if t280 = true then ((spec_l21In.f a3 a2 10000).bind fun t281 => (if t281 = true then (spec_FlyRest.j0 k a1 a2 a3 (decide (a2 < 0)) a0_0 a0_1 l0_2 a0_3 a0_4) else (spec_FlyRest.j0 k a1 a2 a3 true a0_0 a0_1 l0_2 a0_3 a0_4))) else (spec_FlyRest.j0 k a1 a2 a3 true a0_0 a0_1 l0_2 a0_3 a0_4))) = some (r1, r2, r3, r4, r5, r6) := by rw [if_pos rfl] at H; exact H
  clear H
  have H := H1
  clear H1
  replace H := zbd H; obtain ⟨t280, A10, H⟩ := H
  by_cases c11 : t280 = true
  rotate_left
  ·replace c11 := Bool.eq_false_iff.mpr c11
   subst c11
   have H1 : (spec_FlyRest.j0 k a1 a2 a3 true a0_0 a0_1 l0_2 a0_3 a0_4) = some (r1, r2, r3, r4, r5, r6) := by rw [if_neg (show ¬ (false = true) by decide)] at H; exact H
   clear H
   have H := H1
   clear H1
   have H' := zA H
   clear H
   have hnb22 := NB277_278.out
   have hnc22 := NB278_277.out
   obtain ⟨hcz23_0, hcz23_1, hcz23_2, hcz23_3, hcz23_4⟩ := zd5 BK277
   obtain ⟨hfz23_0, hfz23_1, hfz23_2, hfz23_3, hfz23_4⟩ := zn5 BK277
   go_wp2_with (first | ((with_reducible refine gate_callee (f := 75) rfl ?_); refine zgl (N := some 12) Try.func75 #[.agg #[.int .i64 a0_0, .int .i64 a0_1, .slice A0_2 l0_2.length c0_2, .int .i64 a0_3, .int .i64 a0_4]] ?_; (with_reducible refine (spec_FlyPathOk.calls k a0_0 a0_1 _ _ l0_2 a0_3 a0_4 true _ ?side1 ?side2 A8.out).mono ?_); (case side1 => exact zC HR0_2 HB); (case side2 => exact HC0_2.out); rintro e w24 ⟨rfl, hb⟩; refine ⟨_, rfl, ?_⟩; replace BK277 := zb BK277 hb; replace BK278 := zb BK278 hb; replace HB := zE (zs2 HB GE277 GE278) hb; (try clear hb); (try clear hb2); (try clear hk); (try clear hi); obtain ⟨hcz25_0, hcz25_1, hcz25_2, hcz25_3, hcz25_4⟩ := zd5 BK277; obtain ⟨hfz25_0, hfz25_1, hfz25_2, hfz25_3, hfz25_4⟩ := zn5 BK277) | (go_at_call 127; (with_reducible refine (spec_l21In.calls a1 0 (wrap64 ((l0_2.length : Int) - 1)) false _ A10.out).mono ?_); rintro e w' ⟨rfl, ⟨nd, rfl⟩⟩))
   go_meet
   case rel => exact ⟨_, (true), zi, H', ⟨by first | omega | exact Nat.le_refl _⟩, ⟨zh BK277⟩, ⟨zh BK278⟩, ⟨zs2 HB GE277 GE278⟩⟩
  subst c11
  have H1 : ((spec_l21In.f a3 a2 10000).bind fun t281 => (if t281 = true then (spec_FlyRest.j0 k a1 a2 a3 (decide (a2 < 0)) a0_0 a0_1 l0_2 a0_3 a0_4) else (spec_FlyRest.j0 k a1 a2 a3 true a0_0 a0_1 l0_2 a0_3 a0_4))) = some (r1, r2, r3, r4, r5, r6) := by rw [if_pos rfl] at H; exact H
  clear H
  have H := H1
  clear H1
  replace H := zbd H; obtain ⟨t281, A12, H⟩ := H
  by_cases c13 : t281 = true
  ·subst c13
   have H1 : (spec_FlyRest.j0 k a1 a2 a3 (decide (a2 < 0)) a0_0 a0_1 l0_2 a0_3 a0_4) = some (r1, r2, r3, r4, r5, r6) := by rw [if_pos rfl] at H; exact H
   clear H
   have H := H1
   clear H1
   have H' := zA H
   clear H
   have hnb14 := NB277_278.out
   have hnc14 := NB278_277.out
   obtain ⟨hcz15_0, hcz15_1, hcz15_2, hcz15_3, hcz15_4⟩ := zd5 BK277
   obtain ⟨hfz15_0, hfz15_1, hfz15_2, hfz15_3, hfz15_4⟩ := zn5 BK277
   go_wp2_with (first | ((with_reducible refine gate_callee (f := 75) rfl ?_); refine zgl (N := some 12) Try.func75 #[.agg #[.int .i64 a0_0, .int .i64 a0_1, .slice A0_2 l0_2.length c0_2, .int .i64 a0_3, .int .i64 a0_4]] ?_; (with_reducible refine (spec_FlyPathOk.calls k a0_0 a0_1 _ _ l0_2 a0_3 a0_4 true _ ?side1 ?side2 A8.out).mono ?_); (case side1 => exact zC HR0_2 HB); (case side2 => exact HC0_2.out); rintro e w16 ⟨rfl, hb⟩; refine ⟨_, rfl, ?_⟩; replace BK277 := zb BK277 hb; replace BK278 := zb BK278 hb; replace HB := zE (zs2 HB GE277 GE278) hb; (try clear hb); (try clear hb2); (try clear hk); (try clear hi); obtain ⟨hcz17_0, hcz17_1, hcz17_2, hcz17_3, hcz17_4⟩ := zd5 BK277; obtain ⟨hfz17_0, hfz17_1, hfz17_2, hfz17_3, hfz17_4⟩ := zn5 BK277) | (go_at_call 127; (with_reducible refine (spec_l21In.calls a1 0 (wrap64 ((l0_2.length : Int) - 1)) true _ A10.out).mono ?_); rintro e w' ⟨rfl, ⟨nd, rfl⟩⟩) | (go_at_call 127; (with_reducible refine (spec_l21In.calls a3 a2 10000 true _ A12.out).mono ?_); rintro e w' ⟨rfl, ⟨nd, rfl⟩⟩))
   go_meet
   case rel => exact ⟨_, (decide (a2 < 0)), zi, H', ⟨by first | omega | exact Nat.le_refl _⟩, ⟨zh BK277⟩, ⟨zh BK278⟩, ⟨zs2 HB GE277 GE278⟩⟩
  replace c13 := Bool.eq_false_iff.mpr c13
  subst c13
  have H1 : (spec_FlyRest.j0 k a1 a2 a3 true a0_0 a0_1 l0_2 a0_3 a0_4) = some (r1, r2, r3, r4, r5, r6) := by rw [if_neg (show ¬ (false = true) by decide)] at H; exact H
  clear H
  have H := H1
  clear H1
  have H' := zA H
  clear H
  have hnb18 := NB277_278.out
  have hnc18 := NB278_277.out
  obtain ⟨hcz19_0, hcz19_1, hcz19_2, hcz19_3, hcz19_4⟩ := zd5 BK277
  obtain ⟨hfz19_0, hfz19_1, hfz19_2, hfz19_3, hfz19_4⟩ := zn5 BK277
  go_wp2_with (first | ((with_reducible refine gate_callee (f := 75) rfl ?_); refine zgl (N := some 12) Try.func75 #[.agg #[.int .i64 a0_0, .int .i64 a0_1, .slice A0_2 l0_2.length c0_2, .int .i64 a0_3, .int .i64 a0_4]] ?_; (with_reducible refine (spec_FlyPathOk.calls k a0_0 a0_1 _ _ l0_2 a0_3 a0_4 true _ ?side1 ?side2 A8.out).mono ?_); (case side1 => exact zC HR0_2 HB); (case side2 => exact HC0_2.out); rintro e w20 ⟨rfl, hb⟩; refine ⟨_, rfl, ?_⟩; replace BK277 := zb BK277 hb; replace BK278 := zb BK278 hb; replace HB := zE (zs2 HB GE277 GE278) hb; (try clear hb); (try clear hb2); (try clear hk); (try clear hi); obtain ⟨hcz21_0, hcz21_1, hcz21_2, hcz21_3, hcz21_4⟩ := zd5 BK277; obtain ⟨hfz21_0, hfz21_1, hfz21_2, hfz21_3, hfz21_4⟩ := zn5 BK277) | (go_at_call 127; (with_reducible refine (spec_l21In.calls a1 0 (wrap64 ((l0_2.length : Int) - 1)) true _ A10.out).mono ?_); rintro e w' ⟨rfl, ⟨nd, rfl⟩⟩) | (go_at_call 127; (with_reducible refine (spec_l21In.calls a3 a2 10000 false _ A12.out).mono ?_); rintro e w' ⟨rfl, ⟨nd, rfl⟩⟩))
  go_meet
  case rel => exact ⟨_, (true), zi, H', ⟨by first | omega | exact Nat.le_refl _⟩, ⟨zh BK277⟩, ⟨zh BK278⟩, ⟨zs2 HB GE277 GE278⟩⟩
 case rest =>
  clear HC5
  try clear c1
  try clear c2
  try clear p2
  try clear p6
  try clear c7
  try clear c9
  try clear c11
  try clear c13
  try clear c14
  try clear c18
  try clear c22
  try clear c26
  try clear hcz15_0 hcz15_1 hcz15_2 hcz15_3 hcz15_4
  try clear hcz17_0 hcz17_1 hcz17_2 hcz17_3 hcz17_4
  try clear hcz19_0 hcz19_1 hcz19_2 hcz19_3 hcz19_4
  try clear hcz21_0 hcz21_1 hcz21_2 hcz21_3 hcz21_4
  try clear hcz23_0 hcz23_1 hcz23_2 hcz23_3 hcz23_4
  try clear hcz25_0 hcz25_1 hcz25_2 hcz25_3 hcz25_4
  try clear hcz27_0 hcz27_1 hcz27_2 hcz27_3 hcz27_4
  try clear hfz15_0 hfz15_1 hfz15_2 hfz15_3 hfz15_4
  try clear hfz17_0 hfz17_1 hfz17_2 hfz17_3 hfz17_4
  try clear hfz19_0 hfz19_1 hfz19_2 hfz19_3 hfz19_4
  try clear hfz21_0 hfz21_1 hfz21_2 hfz21_3 hfz21_4
  try clear hfz23_0 hfz23_1 hfz23_2 hfz23_3 hfz23_4
  try clear hfz25_0 hfz25_1 hfz25_2 hfz25_3 hfz25_4
  try clear hfz27_0 hfz27_1 hfz27_2 hfz27_3 hfz27_4
  obtain ⟨kq, x32_4, rfl, HA, HJ4, BK277, BK278, HB⟩ := hcut
  cases kq with
  | zero => exact absurd HA.out (by simp [spec_FlyRest.j0])
  | succ kj4 =>
   have H := HA.out
   clear HA
   simp only [spec_FlyRest.j0] at H
   by_cases c29 : x32_4 = true
   ·subst c29
    have H1 : (some (0, 0, ([] : List (S132)), 0, 0, false)) = some (r1, r2, r3, r4, r5, r6) := by rw [if_pos rfl] at H; exact H
    clear H
    have H := H1
    clear H1
    simp only [Option.some.injEq, Prod.mk.injEq] at H
    obtain ⟨rfl, rfl, rfl, rfl, rfl, rfl⟩ := H
    have hnb30 := NB278_277.out
    have hnc30 := NB277_278.out
    obtain ⟨hcz31_0, hcz31_1, hcz31_2, hcz31_3, hcz31_4⟩ := zd5 BK278
    obtain ⟨hfz31_0, hfz31_1, hfz31_2, hfz31_3, hfz31_4⟩ := zn5 BK278
    go_wp2
    refine bodyPost_ret (results_ct rfl _ _ gb278 68 #[.int .i64 0, .int .i64 0, .slice none 0 0, .int .i64 0, .int .i64 0] (0, 0) _ rfl ?hz Try.underlying68 rfl (by kernel_rfl)) rfl ?_; (case hz => exact zpb BK278)
    exact ⟨_, ze, by first | exact Kd.R_nil _ _ _ _ _ | exact Kd.N_nil _ _ _ _ _ | exact Kd.V_nil _ _ _ _ _ | exact Kd.Q_nil _ _ _ _ _ | exact Kd.S_nil _ _ _ _ _, zs2 HB GE277 GE278⟩
   replace c29 := Bool.eq_false_iff.mpr c29
   subst c29
   have H1 : ((spec_l26Held.f kj4 a0_0 a0_1 l0_2 a0_3 a0_4 (([] : List Int))).bind fun bt285 => ((spec_l27Tail.f bt285.1 bt285.2.1 bt285.2.2.1 bt285.2.2.2.1 bt285.2.2.2.2 a1).bind fun bt292 => (if 0 < (bt292.2.2.1.length : Int) then ((spec_l21Max.f ((rd_T132 bt292.2.2.1 0).f4) a2).bind fun t301 => ((some (bt292.2.2.1.set (0 : Int).toNat (⟨(rd_T132 bt292.2.2.1 0).f0, (rd_T132 bt292.2.2.1 0).f1, (rd_T132 bt292.2.2.1 0).f2, (rd_T132 bt292.2.2.1 0).f3, t301, (rd_T132 bt292.2.2.1 0).f5, (rd_T132 bt292.2.2.1 0).f6⟩ : S132) : List (S132))).bind fun y302 => ((spec_l21Min.f ((rd_T132 y302 0).f5) a2).bind fun t304 => ((spec_l27After.f bt292.1 bt292.2.1 (y302.set (0 : Int).toNat (⟨(rd_T132 y302 0).f0, (rd_T132 y302 0).f1, (rd_T132 y302 0).f2, (rd_T132 y302 0).f3, (rd_T132 y302 0).f4, t304, (rd_T132 y302 0).f6⟩ : S132)) bt292.2.2.2.1 bt292.2.2.2.2 a3).bind fun bt306 => ((spec_l27Can.f kj4 bt306.1 bt306.2.1 bt306.2.2.1 bt306.2.2.2.1 bt306.2.2.2.2).bind fun bt313 => (some (bt313.1, bt313.2.1, bt313.2.2.1, bt313.2.2.2.1, bt313.2.2.2.2.1, bt313.2.2.2.2.2))))))) else (none)))) = some (r1, r2, r3, r4, r5, r6) := by rw [if_neg (show ¬ (false = true) by decide)] at H; exact H
   clear H
   have H := H1
   clear H1
   obtain ⟨y282, hy282⟩ : ∃ y_ : List Int, y_ = (([] : List Int)) := ⟨_, rfl⟩
   replace H : ((spec_l26Held.f kj4 a0_0 a0_1 l0_2 a0_3 a0_4 y282).bind fun bt285 => ((spec_l27Tail.f bt285.1 bt285.2.1 bt285.2.2.1 bt285.2.2.2.1 bt285.2.2.2.2 a1).bind fun bt292 => (if 0 < (bt292.2.2.1.length : Int) then ((spec_l21Max.f ((rd_T132 bt292.2.2.1 0).f4) a2).bind fun t301 => ((some (bt292.2.2.1.set (0 : Int).toNat (⟨(rd_T132 bt292.2.2.1 0).f0, (rd_T132 bt292.2.2.1 0).f1, (rd_T132 bt292.2.2.1 0).f2, (rd_T132 bt292.2.2.1 0).f3, t301, (rd_T132 bt292.2.2.1 0).f5, (rd_T132 bt292.2.2.1 0).f6⟩ : S132) : List (S132))).bind fun y302 => ((spec_l21Min.f ((rd_T132 y302 0).f5) a2).bind fun t304 => ((spec_l27After.f bt292.1 bt292.2.1 (y302.set (0 : Int).toNat (⟨(rd_T132 y302 0).f0, (rd_T132 y302 0).f1, (rd_T132 y302 0).f2, (rd_T132 y302 0).f3, (rd_T132 y302 0).f4, t304, (rd_T132 y302 0).f6⟩ : S132)) bt292.2.2.2.1 bt292.2.2.2.2 a3).bind fun bt306 => ((spec_l27Can.f kj4 bt306.1 bt306.2.1 bt306.2.2.1 bt306.2.2.2.1 bt306.2.2.2.2).bind fun bt313 => (some (bt313.1, bt313.2.1, bt313.2.2.1, bt313.2.2.2.1, bt313.2.2.2.2.1, bt313.2.2.2.2.2))))))) else (none)))) = some (r1, r2, r3, r4, r5, r6) := by first | (rw [hy282]; with_reducible exact H) | (have H2_ := (Option.bind_some _ _).symm.trans H; rw [hy282]; with_reducible exact H2_) | (have H2_ := (Option.bind_some _ _).symm.trans H; with_reducible exact H2_) | with_reducible exact H | (rw [hy282]; exact H) | exact H
   have Ny282 := zA hy282
   clear hy282
   replace H := Option.bind_eq_some_iff.mp H
   obtain ⟨⟨t285, t286, t287, t290, t291⟩, A320, H⟩ := H
   replace H : ((spec_l27Tail.f t285 t286 t287 t290 t291 a1).bind fun bt292 => (if 0 < (bt292.2.2.1.length : Int) then ((spec_l21Max.f ((rd_T132 bt292.2.2.1 0).f4) a2).bind fun t301 => ((some (bt292.2.2.1.set (0 : Int).toNat (⟨(rd_T132 bt292.2.2.1 0).f0, (rd_T132 bt292.2.2.1 0).f1, (rd_T132 bt292.2.2.1 0).f2, (rd_T132 bt292.2.2.1 0).f3, t301, (rd_T132 bt292.2.2.1 0).f5, (rd_T132 bt292.2.2.1 0).f6⟩ : S132) : List (S132))).bind fun y302 => ((spec_l21Min.f ((rd_T132 y302 0).f5) a2).bind fun t304 => ((spec_l27After.f bt292.1 bt292.2.1 (y302.set (0 : Int).toNat (⟨(rd_T132 y302 0).f0, (rd_T132 y302 0).f1, (rd_T132 y302 0).f2, (rd_T132 y302 0).f3, (rd_T132 y302 0).f4, t304, (rd_T132 y302 0).f6⟩ : S132)) bt292.2.2.2.1 bt292.2.2.2.2 a3).bind fun bt306 => ((spec_l27Can.f kj4 bt306.1 bt306.2.1 bt306.2.2.1 bt306.2.2.2.1 bt306.2.2.2.2).bind fun bt313 => (some (bt313.1, bt313.2.1, bt313.2.2.1, bt313.2.2.2.1, bt313.2.2.2.2.1, bt313.2.2.2.2.2))))))) else (none))) = some (r1, r2, r3, r4, r5, r6) := H
   have A32 := zA A320
   clear A320
   replace H := Option.bind_eq_some_iff.mp H
   obtain ⟨⟨t292, t293, t294, t297, t298⟩, A330, H⟩ := H
   replace H : (if 0 < (t294.length : Int) then ((spec_l21Max.f ((rd_T132 t294 0).f4) a2).bind fun t301 => ((some (t294.set (0 : Int).toNat (⟨(rd_T132 t294 0).f0, (rd_T132 t294 0).f1, (rd_T132 t294 0).f2, (rd_T132 t294 0).f3, t301, (rd_T132 t294 0).f5, (rd_T132 t294 0).f6⟩ : S132) : List (S132))).bind fun y302 => ((spec_l21Min.f ((rd_T132 y302 0).f5) a2).bind fun t304 => ((spec_l27After.f t292 t293 (y302.set (0 : Int).toNat (⟨(rd_T132 y302 0).f0, (rd_T132 y302 0).f1, (rd_T132 y302 0).f2, (rd_T132 y302 0).f3, (rd_T132 y302 0).f4, t304, (rd_T132 y302 0).f6⟩ : S132)) t297 t298 a3).bind fun bt306 => ((spec_l27Can.f kj4 bt306.1 bt306.2.1 bt306.2.2.1 bt306.2.2.2.1 bt306.2.2.2.2).bind fun bt313 => (some (bt313.1, bt313.2.1, bt313.2.2.1, bt313.2.2.2.1, bt313.2.2.2.2.1, bt313.2.2.2.2.2))))))) else (none)) = some (r1, r2, r3, r4, r5, r6) := H
   have A33 := zA A330
   clear A330
   by_cases c34 : 0 < (t294.length : Int)
   rotate_left
   ·rw [if_neg c34] at H
    exact absurd H (by simp)
   rw [if_pos c34] at H
   have c34b0 : decide (0 < (t294.length : Int)) = true := decide_eq_true c34
   have c34b1 : decide (0 < t294.length) = true := decide_eq_true (by omega)
   clear c34
   replace H := zbd H; obtain ⟨t301, A35, H⟩ := H
   obtain ⟨y302, hy302⟩ : ∃ y_ : List (S132), y_ = (t294.set (0 : Int).toNat (⟨(rd_T132 t294 0).f0, (rd_T132 t294 0).f1, (rd_T132 t294 0).f2, (rd_T132 t294 0).f3, t301, (rd_T132 t294 0).f5, (rd_T132 t294 0).f6⟩ : S132)) := ⟨_, rfl⟩
   replace H : ((spec_l21Min.f ((rd_T132 y302 0).f5) a2).bind fun t304 => ((spec_l27After.f t292 t293 (y302.set (0 : Int).toNat (⟨(rd_T132 y302 0).f0, (rd_T132 y302 0).f1, (rd_T132 y302 0).f2, (rd_T132 y302 0).f3, (rd_T132 y302 0).f4, t304, (rd_T132 y302 0).f6⟩ : S132)) t297 t298 a3).bind fun bt306 => ((spec_l27Can.f kj4 bt306.1 bt306.2.1 bt306.2.2.1 bt306.2.2.2.1 bt306.2.2.2.2).bind fun bt313 => (some (bt313.1, bt313.2.1, bt313.2.2.1, bt313.2.2.2.1, bt313.2.2.2.2.1, bt313.2.2.2.2.2))))) = some (r1, r2, r3, r4, r5, r6) := by first | (rw [hy302]; with_reducible exact H) | (have H2_ := (Option.bind_some _ _).symm.trans H; rw [hy302]; with_reducible exact H2_) | (have H2_ := (Option.bind_some _ _).symm.trans H; with_reducible exact H2_) | with_reducible exact H | (rw [hy302]; exact H) | exact H
   have Ny302 := zA hy302
   clear hy302
   replace H := zbd H; obtain ⟨t304, A37, H⟩ := H
   obtain ⟨y305, hy305⟩ : ∃ y_ : List (S132), y_ = (y302.set (0 : Int).toNat (⟨(rd_T132 y302 0).f0, (rd_T132 y302 0).f1, (rd_T132 y302 0).f2, (rd_T132 y302 0).f3, (rd_T132 y302 0).f4, t304, (rd_T132 y302 0).f6⟩ : S132)) := ⟨_, rfl⟩
   replace H : ((spec_l27After.f t292 t293 y305 t297 t298 a3).bind fun bt306 => ((spec_l27Can.f kj4 bt306.1 bt306.2.1 bt306.2.2.1 bt306.2.2.2.1 bt306.2.2.2.2).bind fun bt313 => (some (bt313.1, bt313.2.1, bt313.2.2.1, bt313.2.2.2.1, bt313.2.2.2.2.1, bt313.2.2.2.2.2)))) = some (r1, r2, r3, r4, r5, r6) := by first | (rw [hy305]; with_reducible exact H) | (have H2_ := (Option.bind_some _ _).symm.trans H; rw [hy305]; with_reducible exact H2_) | (have H2_ := (Option.bind_some _ _).symm.trans H; with_reducible exact H2_) | with_reducible exact H | (rw [hy305]; exact H) | exact H
   have Ny305 := zA hy305
   clear hy305
   replace H := Option.bind_eq_some_iff.mp H
   obtain ⟨⟨t306, t307, t308, t311, t312⟩, A390, H⟩ := H
   replace H : ((spec_l27Can.f kj4 t306 t307 t308 t311 t312).bind fun bt313 => (some (bt313.1, bt313.2.1, bt313.2.2.1, bt313.2.2.2.1, bt313.2.2.2.2.1, bt313.2.2.2.2.2))) = some (r1, r2, r3, r4, r5, r6) := H
   have A39 := zA A390
   clear A390
   replace H := Option.bind_eq_some_iff.mp H
   obtain ⟨⟨t313, t314, t315, t318, t319, t320⟩, A400, H⟩ := H
   replace H : (some (t313, t314, t315, t318, t319, t320)) = some (r1, r2, r3, r4, r5, r6) := H
   have A40 := zA A400
   clear A400
   simp only [Option.some.injEq, Prod.mk.injEq] at H
   obtain ⟨rfl, rfl, rfl, rfl, rfl, rfl⟩ := H
   have hnb41 := NB277_278.out
   have hnc41 := NB278_277.out
   obtain ⟨hcz42_0, hcz42_1, hcz42_2, hcz42_3, hcz42_4⟩ := zd5 BK277
   obtain ⟨hfz42_0, hfz42_1, hfz42_2, hfz42_3, hfz42_4⟩ := zn5 BK277
   try go_wp2_with (first | ((with_reducible refine gate_dst (N := 35) rfl ?_); (try (refine gate_guard (by rfl) ?_; dsimp only)); refine Kd.R_lit (Kd.int .i64) _ 3 ?hg (N := 35) ?hd (xs := ([] : List Int)) (inner := []) (ok := fun _ => True) (okp := fun _ => True) ?hr ?hp (fun _ hk => hk) trivial (Below.refl _ _) (Nat.le_refl _) (by simp) ?_; (case hd => rfl); (case hg => rfl); (case hr => first | (go_simp; done) | (go_simp; rfl)); (case hp => exact (Reps.none _ _)); intro v283 w43 ho44 hb hg_ hnew_; clear hg_ hnew_; (first | rw [← Ny282.out] at ho44 | (simp only [Int.reduceToNat] at ho44; rw [← Ny282.out] at ho44)); have HO284 := zA (Kd.R_lower ho44 (below_size (zs2 HB GE277 GE278))); replace BK277 := zb BK277 hb; replace BK278 := zb BK278 hb; replace HB := zE (zs2 HB GE277 GE278) hb; clear hb ho44; obtain ⟨Ao45, co45, eo45⟩ := Kd.R_slice HO284.out; subst eo45) | ((with_reducible refine gate_callee (f := 129) rfl ?_); refine zgl (N := some 36) Try.func129 #[.agg #[.int .i64 a0_0, .int .i64 a0_1, .slice A0_2 l0_2.length c0_2, .int .i64 a0_3, .int .i64 a0_4], .slice Ao45 y282.length co45] ?_; (with_reducible refine (spec_l26Held.calls kj4 a0_0 a0_1 _ _ l0_2 a0_3 a0_4 _ _ y282 t285 t286 t287 t290 t291 _ ?side1 ?side2 ?side3 ?side4 A32.out).mono ?_); (case side1 => exact zC HR0_2 HB); (case side2 => exact HC0_2.out); (case side3 => repeat (first | exact (Kd.R_reads' HO284.out).2.2 | (with_reducible refine Kd.C_alloc ?_ _) | (with_reducible refine Kd.C_drewN ?_ _) | (with_reducible refine Kd.C_drew ?_))); (case side4 => exact (Kd.R_reads' HO284.out).2.1); rintro e w46 ⟨v288, rfl, ho0, hb⟩; refine ⟨_, rfl, ?_⟩; have HO289 := zA (Kd.R_lower ho0 (below_size (zs2 HB GE277 GE278))); replace HO284 := zA (Kd.R_below (zr HO284) hb); replace BK277 := zb BK277 hb; replace BK278 := zb BK278 hb; replace HB := zE (zs2 HB GE277 GE278) hb; (try clear hb); (try clear hb2); (try clear hk); (try clear hi); (try clear ho0); obtain ⟨Ao47, co47, eo47⟩ := Kd.R_slice HO289.out; subst eo47) | ((with_reducible refine gate_callee (f := 128) rfl ?_); refine zgl (N := some 38) Try.func128 #[.agg #[.int .i64 t285, .int .i64 t286, .slice Ao47 t287.length co47, .int .i64 t290, .int .i64 t291], .int .i64 a1] ?_; (with_reducible refine (spec_l27Tail.calls t285 t286 _ _ t287 t290 t291 a1 t292 t293 t294 t297 t298 _ ?side1 ?side2 A33.out).mono ?_); (case side1 => repeat (first | exact (Kd.R_reads' HO289.out).2.2 | (with_reducible refine Kd.C_alloc ?_ _) | (with_reducible refine Kd.C_drewN ?_ _) | (with_reducible refine Kd.C_drew ?_))); (case side2 => exact (Kd.R_reads' HO289.out).2.1); rintro e w48 ⟨v295, rfl, ho0, hb⟩; refine ⟨_, rfl, ?_⟩; have HO296 := zA (Kd.R_lower (Kd.R_new' ho0 (Kd.R_lt (zr HO289))) (below_size (zs2 HB GE277 GE278))); replace HO284 := zA (Kd.R_below (zr HO284) hb); replace HO289 := zA (Kd.R_elder' (zr HO289) (Kd.R_base ho0) hb); replace BK277 := zb BK277 hb; replace BK278 := zb BK278 hb; replace HB := zE (zs2 HB GE277 GE278) hb; (try clear hb); (try clear hb2); (try clear hk); (try clear hi); (try clear ho0)) | ((with_reducible refine gate_dst (N := 10) rfl ?_); (try (refine gate_guard (by rfl) ?_; dsimp only)); refine zbx 10 #[.int .i64 0, .int .i64 0, .slice none 0 0, .int .i64 0, .int .i64 0] 68 ?_; intro gb299 hg w49 hbox hb; have BK299 := zA hbox; have GW299 := zgs hg (zs2 HB GE277 GE278); have GE299 := zgs hg (zs2 HB GE277 GE278); have NB277_299 := zne hg BK277; have NB299_277 := znf hg BK277; have NB278_299 := zne hg BK278; have NB299_278 := znf hg BK278; replace HO284 := zA (Kd.R_below (zr HO284) hb); replace HO289 := zA (Kd.R_below (zr HO289) hb); replace HO296 := zA (Kd.R_below (zr HO296) hb); replace BK277 := zb BK277 hb; replace BK278 := zb BK278 hb; replace HB := zE (zs2 HB GE277 GE278) hb; clear hb hbox hg; have hnb50 := NB299_277.out; have hnc50 := NB277_299.out; have hnb51 := NB299_278.out; have hnc51 := NB278_299.out; obtain ⟨hcz52_0, hcz52_1, hcz52_2, hcz52_3, hcz52_4⟩ := zd5 BK299; obtain ⟨hfz52_0, hfz52_1, hfz52_2, hfz52_3, hfz52_4⟩ := zn5 BK299; obtain ⟨Ao53, co53, eo53⟩ := Kd.R_slice HO296.out; subst eo53))
   obtain ⟨w54, e_⟩ : ∃ x, x = (((((w49.setCell ⟨gb299, 0, none⟩ (.int .i64 t292)).setCell ⟨gb299, 1, none⟩ (.int .i64 t293)).setCell ⟨gb299, 2, none⟩ (.slice Ao53 t294.length co53)).setCell ⟨gb299, 3, none⟩ (.int .i64 t297)).setCell ⟨gb299, 4, none⟩ (.int .i64 t298)) := ⟨_, rfl⟩
   have n0_ : Aside0 (Kd.R (Kd.int .i64) 3 w54 w.heap.size (fun _ => True) (.slice Ao45 y282.length co45) y282) := by rw [e_]; exact ⟨zRf HO284 BK299 (fun _ hk => trivial)⟩
   have n1_ : Aside0 (Kd.R k132 132 w54 w.heap.size (fun k_ => some k_ ≠ (.slice Ao53 t294.length co53 : Value).ownBlock) (.slice Ao47 t287.length co47) t287) := by rw [e_]; exact ⟨zRf HO289 BK299 (fun _ hk => hk.1.2)⟩
   have n2_ : Aside0 (Kd.R k132 132 w54 w.heap.size (fun k_ => some k_ ≠ (.slice Ao47 t287.length co47 : Value).ownBlock) (.slice Ao53 t294.length co53) t294) := by rw [e_]; exact ⟨zRf HO296 BK299 (fun _ hk => hk.1.2)⟩
   have n3_ : Aside0 (w54.heap[gb277]? = some (.cells #[.int .i64 a0_0, .int .i64 a0_1, .slice A0_2 l0_2.length c0_2, .int .i64 a0_3, .int .i64 a0_4] 68 (0, 0))) := by rw [e_]; exact ⟨zpf BK277 NB277_299⟩
   have n4_ : Aside0 (w54.heap[gb278]? = some (.cells #[.int .i64 0, .int .i64 0, .slice none 0 0, .int .i64 0, .int .i64 0] 68 (0, 0))) := by rw [e_]; exact ⟨zpf BK278 NB278_299⟩
   have n5_ : Aside0 (w54.heap[gb299]? = some (.cells #[.int .i64 t292, .int .i64 t293, .slice Ao53 t294.length co53, .int .i64 t297, .int .i64 t298] 68 (0, 0))) := by rw [e_]; exact ⟨zpb BK299⟩
   have n6_ : Aside0 (Below w.heap.size w w54) := by rw [e_]; exact ⟨zs3 HB GE277 GE278 GE299⟩
   (try clear HO284)
   (try clear HO289)
   (try clear HO296)
   (try clear BK277)
   (try clear BK278)
   (try clear BK299)
   (try clear HB)
   rw [← e_]; clear e_
   have HO284 := n0_
   have HO289 := n1_
   have HO296 := n2_
   have BK277 := n3_
   have BK278 := n4_
   have BK299 := n5_
   have HB := n6_
   clear n0_ n1_ n2_ n3_ n4_ n5_ n6_
   replace HO284 := zA (Kd.R_drew HO284.out)
   replace HO289 := zA (Kd.R_drew HO289.out)
   replace HO296 := zA (Kd.R_drew HO296.out)
   replace BK277 := zA (blk_drew BK277.out)
   replace BK278 := zA (blk_drew BK278.out)
   replace BK299 := zA (blk_drew BK299.out)
   replace HB := zA (below_drew1 HB.out)
   have p300 : 0 ≤ (0 : Int) := (by omega)
   have q300 : 0 < (t294.length : Int) := za
   obtain ⟨ad300, e300, hx300_0, hx300_1, hx300_2, hx300_3, hx300_4, hx300_5, hx300_6⟩ := at_T132 (Kd.R_reads' HO296.out).2.2 0 p300 q300
   cases e300
   have qi300 : (0 < t294.length) = True := eq_true (by omega)
   (try rw [zi0] at hx300_0)
   (try rw [show 0 * 7 = 0 from rfl] at hx300_0)
   (try rw [Addr.add_zero'] at hx300_0)
   (try rw [zi0] at hx300_1)
   (try rw [show 0 * 7 = 0 from rfl] at hx300_1)
   (try rw [Addr.add_zero'] at hx300_1)
   (try rw [zi0] at hx300_2)
   (try rw [show 0 * 7 = 0 from rfl] at hx300_2)
   (try rw [Addr.add_zero'] at hx300_2)
   (try rw [zi0] at hx300_3)
   (try rw [show 0 * 7 = 0 from rfl] at hx300_3)
   (try rw [Addr.add_zero'] at hx300_3)
   (try rw [zi0] at hx300_4)
   (try rw [show 0 * 7 = 0 from rfl] at hx300_4)
   (try rw [Addr.add_zero'] at hx300_4)
   (try rw [zi0] at hx300_5)
   (try rw [show 0 * 7 = 0 from rfl] at hx300_5)
   (try rw [Addr.add_zero'] at hx300_5)
   (try rw [zi0] at hx300_6)
   (try rw [show 0 * 7 = 0 from rfl] at hx300_6)
   (try rw [Addr.add_zero'] at hx300_6)
   replace p300 := eq_true p300
   replace q300 := eq_true q300
   refine start_ (n := 12) (S := fun w' => w'.cell? ⟨gb299, 0, none⟩ = some (.int .i64 t292) ∧ w'.cell? ⟨gb299, 1, none⟩ = some (.int .i64 t293) ∧ w'.cell? ⟨gb299, 2, none⟩ = some (.slice (some ad300) t294.length co53) ∧ w'.cell? ⟨gb299, 3, none⟩ = some (.int .i64 t297) ∧ w'.cell? ⟨gb299, 4, none⟩ = some (.int .i64 t298) ∧ w'.cell? ad300 = some (.int .i64 ((rd_T132 t294 0).f0)) ∧ w'.cell? ⟨ad300.block, ad300.off + 1, none⟩ = some (.int .i64 ((rd_T132 t294 0).f1)) ∧ w'.cell? ⟨ad300.block, ad300.off + 2, none⟩ = some (.int .i64 ((rd_T132 t294 0).f2)) ∧ w'.cell? ⟨ad300.block, ad300.off + 3, none⟩ = some (.int .i64 ((rd_T132 t294 0).f3)) ∧ w'.cell? ⟨ad300.block, ad300.off + 4, none⟩ = some (.int .i64 ((rd_T132 t294 0).f4)) ∧ w'.cell? ⟨ad300.block, ad300.off + 5, none⟩ = some (.int .i64 ((rd_T132 t294 0).f5)) ∧ w'.cell? ⟨ad300.block, ad300.off + 6, none⟩ = some (.bool ((rd_T132 t294 0).f6))) (ds := [11]) #[F,F,F,F,F,F,F,F,F,F,F,F] (by kernel_rfl) rfl rfl ⟨zc0 BK299, zc1 BK299, zc2 BK299, zc3 BK299, zc4 BK299, hx300_0, hx300_1, hx300_2, hx300_3, hx300_4, hx300_5, hx300_6⟩ (fun hHeld => ?_); refine with_tabW spec_FlyRest.tab4 spec_FlyRest.bits4 (fun HT_ HW_ => ?_)
   generalize w54.drew = w55 at HO284 HO289 HO296 BK277 BK278 BK299 HB hx300_0 hx300_1 hx300_2 hx300_3 hx300_4 hx300_5 hx300_6 hHeld ⊢
   refine zq HT_ 0 ?_
   refine zq HT_ 2 ?_
   refine zq HT_ 7 ?_
   refine zk12 HT_ HW_ hHeld 1 ?_
   refine zk12 HT_ HW_ hHeld 3 ?_
   refine zq HT_ 4 ?_
   refine zq HT_ 5 ?_
   refine zk12 HT_ HW_ hHeld 6 ?_
   refine zo HT_ 8 (fun K hK => ?_)
   refine zgo Try.func130 #[.int .i64 ((rd_T132 t294 0).f4), .int .i64 a2] ?_
   with_reducible refine (spec_l21Max.calls ((rd_T132 t294 0).f4) a2 t301 _ A35.out).mono ?_
   rintro e w' ⟨rfl, ⟨nd, rfl⟩⟩
   refine ⟨_, rfl, ?_⟩
   have p36 : 0 ≤ (0 : Int) := (by omega)
   have q36 : (0 : Int) < ((t294.length : Int) : Int) := za
   have qi36 : (0 < t294.length) = True := eq_true (by omega)
   obtain ⟨go36, co36, eo36, gb36, gl36, cl36, HG36⟩ := Kd.R_form HO296.out (by omega)
   (first | cases eo36 | (injection eo36 with ea_ en_ ec_; (first | subst ea_ | (injection ea_ with ea_; subst ea_)); subst ec_; clear en_))
   have GB36 := zA gb36
   have GG36 := zA HG36
   clear gb36 gl36 HG36
   (first | simp only [add_plain] at hx300_0 | skip)
   (first | simp only [add_plain] at hx300_1 | skip)
   (first | simp only [add_plain] at hx300_2 | skip)
   (first | simp only [add_plain] at hx300_3 | skip)
   (first | simp only [add_plain] at hx300_4 | skip)
   (first | simp only [add_plain] at hx300_5 | skip)
   (first | simp only [add_plain] at hx300_6 | skip)
   obtain ⟨ce36, hcl36, hM36, hcc36, hfr36⟩ := Kd.R_elem HO296.out z132 (0 : Int) p36 q36
   obtain rfl := k132_openM hM36
   have hx36_0 : World.cell? _ ⟨go36, (0 : Int).toNat * 7, none⟩ = some (.int .i64 ((rd_T132 t294 0).f0)) := hcc36 0 _ rfl
   have hx36_1 : World.cell? _ ⟨go36, (0 : Int).toNat * 7 + 1, none⟩ = some (.int .i64 ((rd_T132 t294 0).f1)) := hcc36 1 _ rfl
   have hx36_2 : World.cell? _ ⟨go36, (0 : Int).toNat * 7 + 2, none⟩ = some (.int .i64 ((rd_T132 t294 0).f2)) := hcc36 2 _ rfl
   have hx36_3 : World.cell? _ ⟨go36, (0 : Int).toNat * 7 + 3, none⟩ = some (.int .i64 ((rd_T132 t294 0).f3)) := hcc36 3 _ rfl
   have hx36_4 : World.cell? _ ⟨go36, (0 : Int).toNat * 7 + 4, none⟩ = some (.int .i64 ((rd_T132 t294 0).f4)) := hcc36 4 _ rfl
   have hx36_5 : World.cell? _ ⟨go36, (0 : Int).toNat * 7 + 5, none⟩ = some (.int .i64 ((rd_T132 t294 0).f5)) := hcc36 5 _ rfl
   have hx36_6 : World.cell? _ ⟨go36, (0 : Int).toNat * 7 + 6, none⟩ = some (.bool ((rd_T132 t294 0).f6)) := hcc36 6 _ rfl
   have hf36_0 : World.frozen? _ ⟨go36, (0 : Int).toNat * 7, none⟩ = false := hfr36 0
   have hf36_1 : World.frozen? _ ⟨go36, (0 : Int).toNat * 7 + 1, none⟩ = false := hfr36 1
   have hf36_2 : World.frozen? _ ⟨go36, (0 : Int).toNat * 7 + 2, none⟩ = false := hfr36 2
   have hf36_3 : World.frozen? _ ⟨go36, (0 : Int).toNat * 7 + 3, none⟩ = false := hfr36 3
   have hf36_4 : World.frozen? _ ⟨go36, (0 : Int).toNat * 7 + 4, none⟩ = false := hfr36 4
   have hf36_5 : World.frozen? _ ⟨go36, (0 : Int).toNat * 7 + 5, none⟩ = false := hfr36 5
   have hf36_6 : World.frozen? _ ⟨go36, (0 : Int).toNat * 7 + 6, none⟩ = false := hfr36 6
   clear hcl36 hcc36 hfr36 hM36
   (try rw [zi0] at hx36_0)
   (try simp only [Nat.zero_mul, Nat.zero_add] at hx36_0)
   (try rw [zi0] at hf36_0)
   (try simp only [Nat.zero_mul, Nat.zero_add] at hf36_0)
   (try rw [zi0] at hx36_1)
   (try simp only [Nat.zero_mul, Nat.zero_add] at hx36_1)
   (try rw [zi0] at hf36_1)
   (try simp only [Nat.zero_mul, Nat.zero_add] at hf36_1)
   (try rw [zi0] at hx36_2)
   (try simp only [Nat.zero_mul, Nat.zero_add] at hx36_2)
   (try rw [zi0] at hf36_2)
   (try simp only [Nat.zero_mul, Nat.zero_add] at hf36_2)
   (try rw [zi0] at hx36_3)
   (try simp only [Nat.zero_mul, Nat.zero_add] at hx36_3)
   (try rw [zi0] at hf36_3)
   (try simp only [Nat.zero_mul, Nat.zero_add] at hf36_3)
   (try rw [zi0] at hx36_4)
   (try simp only [Nat.zero_mul, Nat.zero_add] at hx36_4)
   (try rw [zi0] at hf36_4)
   (try simp only [Nat.zero_mul, Nat.zero_add] at hf36_4)
   (try rw [zi0] at hx36_5)
   (try simp only [Nat.zero_mul, Nat.zero_add] at hx36_5)
   (try rw [zi0] at hf36_5)
   (try simp only [Nat.zero_mul, Nat.zero_add] at hf36_5)
   (try rw [zi0] at hx36_6)
   (try simp only [Nat.zero_mul, Nat.zero_add] at hx36_6)
   (try rw [zi0] at hf36_6)
   (try simp only [Nat.zero_mul, Nat.zero_add] at hf36_6)
   replace p36 := eq_true p36
   replace q36 := eq_true q36
   obtain ⟨ce56, hcl56, hM56, hcc56, hfr56⟩ := Kd.R_elem HO296.out z132 (0 : Int) (by omega) (by have h_ : (0 : Int) < ((t294.length : Int) : Int) := za; first | exact h_ | (have e_ := (Kd.R_reads' HO296.out).1; omega) | simpa using h_)
   obtain rfl := k132_openM hM56
   have HP56 := (Kd.R_seg HO296.out (0 : Int) (by omega) (by have h_ : (0 : Int) < ((t294.length : Int) : Int) := za; first | exact h_ | (have e_ := (Kd.R_reads' HO296.out).1; omega) | simpa using h_) (seg := [.int .i64 t301]) (j := 4) hcl56 hcc56 (show 5 ≤ 7 from by decide) (x' := (⟨(rd_T132 t294 0).f0, (rd_T132 t294 0).f1, (rd_T132 t294 0).f2, (rd_T132 t294 0).f3, t301, (rd_T132 t294 0).f5, (rd_T132 t294 0).f6⟩ : S132)) (k132_mkM _ _ _ (⟨(rd_T132 t294 0).f0, (rd_T132 t294 0).f1, (rd_T132 t294 0).f2, (rd_T132 t294 0).f3, t301, (rd_T132 t294 0).f5, (rd_T132 t294 0).f6⟩ : S132) ) (fun _ hk => hk)).1
   rw [← Ny302.out] at HP56
   have HQ56 := zA HP56
   clear hcl56 hcc56 hfr56 hM56 HP56
   refine hK.out _ _ ⟨zc0 BK299, zc1 BK299, zc2 BK299, zc3 BK299, zc4 BK299, hHeld.2.2.2.2.2⟩ (fun hHeld => ?_)
   clear hK K
   refine zN ?_
   refine zq HT_ 9 ?_
   refine zq HT_ 10 ?_
   refine zO HT_ 11 (fun K hK => ?_)
   refine skip_ (w1 := ?_) (by rfl) rfl ?_ ?_
   rotate_left
   ·go_simp
    rfl
   refine hK.out _ _ ?_
   clear hK K
   refine done_ (done_of HT_.out (by kernel_rfl)) ?_
   obtain ⟨_, hgg_⟩ := Kd.R_typed HO296.out go36 rfl
   replace GG36 := zA hgg_
   clear hgg_
   have n0_ : Aside0 (Kd.R (Kd.int .i64) 3 (w55.setCell ⟨go36, 4, none⟩ (.int .i64 t301)) w.heap.size (fun _ => True) (.slice Ao45 y282.length co45) y282) := ⟨by (with_reducible repeat (first | apply Kd.R_alloc | apply Kd.R_drewN | apply Kd.R_drew)); exact Kd.R_mono (Kd.R_far (p := ⟨go36, 4, none⟩) (Kd.R_types HO284.out GG36.out (by decide)) (fun _ hk => hk.2) (.int .i64 t301)) (fun _ hk => trivial)⟩
   have n1_ : Aside0 (Kd.R k132 132 (w55.setCell ⟨go36, 4, none⟩ (.int .i64 t301)) w.heap.size (fun k_ => some k_ ≠ (.slice (some ⟨go36, 0, none⟩) t294.length co53 : Value).ownBlock) (.slice Ao47 t287.length co47) t287) := ⟨by (with_reducible repeat (first | apply Kd.R_alloc | apply Kd.R_drewN | apply Kd.R_drew)); exact Kd.R_mono (Kd.R_far (p := ⟨go36, 4, none⟩) (Kd.R_mono HO289.out (fun k_ hk => (⟨hk, fun e_ => hk (by rw [e_]; rfl)⟩ : _ ∧ k_ ≠ go36))) (fun _ hk => hk.2) (.int .i64 t301)) (fun _ hk => hk.1)⟩
   have n2_ : Aside0 (Kd.R k132 132 (w55.setCell ⟨go36, 4, none⟩ (.int .i64 t301)) w.heap.size (fun k_ => some k_ ≠ (.slice Ao47 t287.length co47 : Value).ownBlock) (.slice (some ⟨go36, 0, none⟩) t294.length co53) y302) := ⟨zr HQ56⟩
   have n3_ : Aside0 ((w55.setCell ⟨go36, 4, none⟩ (.int .i64 t301)).heap[gb277]? = some (.cells #[.int .i64 a0_0, .int .i64 a0_1, .slice A0_2 l0_2.length c0_2, .int .i64 a0_3, .int .i64 a0_4] 68 (0, 0))) := ⟨by (with_reducible repeat (first | refine blk_drewN ?_ _ | refine blk_drew ?_ | refine blk_alloc ?_ _)); refine blk_far ?_ (by have h_ := Kd.R_ne HO296.out BK277.out (by decide); intro e_; exact h_ (by rw [e_]; rfl)) _; (with_reducible repeat (first | refine blk_drewN ?_ _ | refine blk_drew ?_ | refine blk_alloc ?_ _)); exact BK277.out⟩
   have n4_ : Aside0 ((w55.setCell ⟨go36, 4, none⟩ (.int .i64 t301)).heap[gb278]? = some (.cells #[.int .i64 0, .int .i64 0, .slice none 0 0, .int .i64 0, .int .i64 0] 68 (0, 0))) := ⟨by (with_reducible repeat (first | refine blk_drewN ?_ _ | refine blk_drew ?_ | refine blk_alloc ?_ _)); refine blk_far ?_ (by have h_ := Kd.R_ne HO296.out BK278.out (by decide); intro e_; exact h_ (by rw [e_]; rfl)) _; (with_reducible repeat (first | refine blk_drewN ?_ _ | refine blk_drew ?_ | refine blk_alloc ?_ _)); exact BK278.out⟩
   have n5_ : Aside0 ((w55.setCell ⟨go36, 4, none⟩ (.int .i64 t301)).heap[gb299]? = some (.cells #[.int .i64 t292, .int .i64 t293, .slice (some ⟨go36, 0, none⟩) t294.length co53, .int .i64 t297, .int .i64 t298] 68 (0, 0))) := ⟨by (with_reducible repeat (first | refine blk_drewN ?_ _ | refine blk_drew ?_ | refine blk_alloc ?_ _)); refine blk_far ?_ (by have h_ := Kd.R_ne HO296.out BK299.out (by decide); intro e_; exact h_ (by rw [e_]; rfl)) _; (with_reducible repeat (first | refine blk_drewN ?_ _ | refine blk_drew ?_ | refine blk_alloc ?_ _)); exact BK299.out⟩
   have n6_ : Aside0 (Below w.heap.size w (w55.setCell ⟨go36, 4, none⟩ (.int .i64 t301))) := ⟨by repeat (first | (with_reducible first | exact HB.out | apply below_alloc | apply pw_below_drewN | apply below_drew1 | refine below_set ?_ GB36.out | refine below_set ?_ GE277.out | refine below_set ?_ GE278.out | refine below_set ?_ GE299.out) | exact HB.out)⟩
   (try clear HO284)
   (try clear HO289)
   (try clear HO296)
   (try clear BK277)
   (try clear BK278)
   (try clear BK299)
   (try clear HB)
   generalize (w55.setCell ⟨go36, 4, none⟩ (.int .i64 t301)) = w57 at n0_ n1_ n2_ n3_ n4_ n5_ n6_ ⊢
   have HO284 := n0_
   have HO289 := n1_
   have HO296 := n2_
   have BK277 := n3_
   have BK278 := n4_
   have BK299 := n5_
   have HB := n6_
   clear n0_ n1_ n2_ n3_ n4_ n5_ n6_
   try go_wp2
   (try (rw [drewN_self w57]; generalize hq_ : World.drewN w57 _ = w57; replace HO284 : Aside0 (Kd.R (Kd.int .i64) 3 w57 w.heap.size (fun _ => True) (.slice Ao45 y282.length co45) y282) := ⟨by rw [← hq_]; exact (zr HO284)⟩; replace HO289 : Aside0 (Kd.R k132 132 w57 w.heap.size (fun k_ => some k_ ≠ (.slice (some ⟨go36, 0, none⟩) t294.length co53 : Value).ownBlock) (.slice Ao47 t287.length co47) t287) := ⟨by rw [← hq_]; exact (zr HO289)⟩; replace HO296 : Aside0 (Kd.R k132 132 w57 w.heap.size (fun k_ => some k_ ≠ (.slice Ao47 t287.length co47 : Value).ownBlock) (.slice (some ⟨go36, 0, none⟩) t294.length co53) y302) := ⟨by rw [← hq_]; exact (zr HO296)⟩; replace BK277 : Aside0 (w57.heap[gb277]? = some (.cells #[.int .i64 a0_0, .int .i64 a0_1, .slice A0_2 l0_2.length c0_2, .int .i64 a0_3, .int .i64 a0_4] 68 (0, 0))) := ⟨by rw [← hq_]; exact (zh BK277)⟩; replace BK278 : Aside0 (w57.heap[gb278]? = some (.cells #[.int .i64 0, .int .i64 0, .slice none 0 0, .int .i64 0, .int .i64 0] 68 (0, 0))) := ⟨by rw [← hq_]; exact (zh BK278)⟩; replace BK299 : Aside0 (w57.heap[gb299]? = some (.cells #[.int .i64 t292, .int .i64 t293, .slice (some ⟨go36, 0, none⟩) t294.length co53, .int .i64 t297, .int .i64 t298] 68 (0, 0))) := ⟨by rw [← hq_]; exact (zh BK299)⟩; replace HB : Aside0 (Below w.heap.size w w57) := ⟨by rw [← hq_]; exact (zs3 HB GE277 GE278 GE299)⟩; clear hq_))
   replace HO284 := zA (Kd.R_drew HO284.out)
   replace HO289 := zA (Kd.R_drew HO289.out)
   replace HO296 := zA (Kd.R_drew HO296.out)
   replace BK277 := zA (blk_drew BK277.out)
   replace BK278 := zA (blk_drew BK278.out)
   replace BK299 := zA (blk_drew BK299.out)
   replace HB := zA (below_drew1 HB.out)
   have p303 : 0 ≤ (0 : Int) := (by omega)
   have q303 : 0 < (y302.length : Int) := (by have h_ : (0 : Int) < ((t294.length : Int) : Int) := za; first | (have e_ := (Kd.R_reads' HO296.out).1; omega) | simpa only [Ny302.out, List.length_set] using h_)
   have ql303 : ((0 : Int) < ((t294.length : Int) : Int)) = True := eq_true (za)
   (try have qn303 : (0 < t294.length) = True := eq_true (by have h_ : (0 : Int) < ((t294.length : Int) : Int) := za; omega))
   obtain ⟨ad303, e303, hx303_0, hx303_1, hx303_2, hx303_3, hx303_4, hx303_5, hx303_6⟩ := at_T132 (Kd.R_reads' HO296.out).2.2 0 p303 q303
   obtain rfl : (⟨go36, 0, none⟩ : Addr) = ad303 := (by injection e303)
   (first | simp only [add_plain] at hx303_0 | simp only [add_at] at hx303_0 | simp only [Addr.add, Nat.zero_add] at hx303_0 | skip)
   (first | simp only [add_plain] at hx303_1 | simp only [add_at] at hx303_1 | simp only [Addr.add, Nat.zero_add] at hx303_1 | skip)
   (first | simp only [add_plain] at hx303_2 | simp only [add_at] at hx303_2 | simp only [Addr.add, Nat.zero_add] at hx303_2 | skip)
   (first | simp only [add_plain] at hx303_3 | simp only [add_at] at hx303_3 | simp only [Addr.add, Nat.zero_add] at hx303_3 | skip)
   (first | simp only [add_plain] at hx303_4 | simp only [add_at] at hx303_4 | simp only [Addr.add, Nat.zero_add] at hx303_4 | skip)
   (first | simp only [add_plain] at hx303_5 | simp only [add_at] at hx303_5 | simp only [Addr.add, Nat.zero_add] at hx303_5 | skip)
   (first | simp only [add_plain] at hx303_6 | simp only [add_at] at hx303_6 | simp only [Addr.add, Nat.zero_add] at hx303_6 | skip)
   have qi303 : (0 < y302.length) = True := eq_true (by omega)
   (try rw [zi0] at hx303_0)
   (try rw [show 0 * 7 = 0 from rfl] at hx303_0)
   (try rw [Addr.add_zero'] at hx303_0)
   (try rw [zi0] at hx303_1)
   (try rw [show 0 * 7 = 0 from rfl] at hx303_1)
   (try rw [Addr.add_zero'] at hx303_1)
   (try rw [zi0] at hx303_2)
   (try rw [show 0 * 7 = 0 from rfl] at hx303_2)
   (try rw [Addr.add_zero'] at hx303_2)
   (try rw [zi0] at hx303_3)
   (try rw [show 0 * 7 = 0 from rfl] at hx303_3)
   (try rw [Addr.add_zero'] at hx303_3)
   (try rw [zi0] at hx303_4)
   (try rw [show 0 * 7 = 0 from rfl] at hx303_4)
   (try rw [Addr.add_zero'] at hx303_4)
   (try rw [zi0] at hx303_5)
   (try rw [show 0 * 7 = 0 from rfl] at hx303_5)
   (try rw [Addr.add_zero'] at hx303_5)
   (try rw [zi0] at hx303_6)
   (try rw [show 0 * 7 = 0 from rfl] at hx303_6)
   (try rw [Addr.add_zero'] at hx303_6)
   replace p303 := eq_true p303
   replace q303 := eq_true q303
   refine start_ (n := 12) (S := fun w' => w'.cell? ⟨gb299, 0, none⟩ = some (.int .i64 t292) ∧ w'.cell? ⟨gb299, 1, none⟩ = some (.int .i64 t293) ∧ w'.cell? ⟨gb299, 2, none⟩ = some (.slice (some ⟨go36, 0, none⟩) t294.length co53) ∧ w'.cell? ⟨gb299, 3, none⟩ = some (.int .i64 t297) ∧ w'.cell? ⟨gb299, 4, none⟩ = some (.int .i64 t298) ∧ w'.cell? ⟨go36, 0, none⟩ = some (.int .i64 ((rd_T132 y302 0).f0)) ∧ w'.cell? ⟨go36, 1, none⟩ = some (.int .i64 ((rd_T132 y302 0).f1)) ∧ w'.cell? ⟨go36, 2, none⟩ = some (.int .i64 ((rd_T132 y302 0).f2)) ∧ w'.cell? ⟨go36, 3, none⟩ = some (.int .i64 ((rd_T132 y302 0).f3)) ∧ w'.cell? ⟨go36, 4, none⟩ = some (.int .i64 ((rd_T132 y302 0).f4)) ∧ w'.cell? ⟨go36, 5, none⟩ = some (.int .i64 ((rd_T132 y302 0).f5)) ∧ w'.cell? ⟨go36, 6, none⟩ = some (.bool ((rd_T132 y302 0).f6))) (ds := [11]) #[F,F,F,F,F,F,F,F,F,F,F,F] (by kernel_rfl) rfl rfl ⟨zc0 BK299, zc1 BK299, zc2 BK299, zc3 BK299, zc4 BK299, hx303_0, hx303_1, hx303_2, hx303_3, hx303_4, hx303_5, hx303_6⟩ (fun hHeld => ?_); refine with_tabW spec_FlyRest.tab5 spec_FlyRest.bits5 (fun HT_ HW_ => ?_)
   generalize w57.drew = w58 at HO284 HO289 HO296 BK277 BK278 BK299 HB hx303_0 hx303_1 hx303_2 hx303_3 hx303_4 hx303_5 hx303_6 hHeld ⊢
   refine zq HT_ 0 ?_
   refine zq HT_ 2 ?_
   refine zq HT_ 7 ?_
   refine zk12 HT_ HW_ hHeld 1 ?_
   refine zk12 HT_ HW_ hHeld 3 ?_
   refine zq HT_ 4 ?_
   refine zq HT_ 5 ?_
   refine zk12 HT_ HW_ hHeld 6 ?_
   refine zo HT_ 8 (fun K hK => ?_)
   refine zgo Try.func98 #[.int .i64 ((rd_T132 y302 0).f5), .int .i64 a2] ?_
   with_reducible refine (spec_l21Min.calls ((rd_T132 y302 0).f5) a2 t304 _ A37.out).mono ?_
   rintro e w' ⟨rfl, ⟨nd, rfl⟩⟩
   refine ⟨_, rfl, ?_⟩
   have p38 : 0 ≤ (0 : Int) := (by omega)
   have q38 : (0 : Int) < ((t294.length : Int) : Int) := za
   have qi38 : (0 < t294.length) = True := eq_true (by omega)
   obtain ⟨ce38, hcl38, hM38, hcc38, hfr38⟩ := Kd.R_elem HO296.out z132 (0 : Int) p38 q38
   obtain rfl := k132_openM hM38
   have hx38_0 : World.cell? _ ⟨go36, (0 : Int).toNat * 7, none⟩ = some (.int .i64 ((rd_T132 y302 0).f0)) := hcc38 0 _ rfl
   have hx38_1 : World.cell? _ ⟨go36, (0 : Int).toNat * 7 + 1, none⟩ = some (.int .i64 ((rd_T132 y302 0).f1)) := hcc38 1 _ rfl
   have hx38_2 : World.cell? _ ⟨go36, (0 : Int).toNat * 7 + 2, none⟩ = some (.int .i64 ((rd_T132 y302 0).f2)) := hcc38 2 _ rfl
   have hx38_3 : World.cell? _ ⟨go36, (0 : Int).toNat * 7 + 3, none⟩ = some (.int .i64 ((rd_T132 y302 0).f3)) := hcc38 3 _ rfl
   have hx38_4 : World.cell? _ ⟨go36, (0 : Int).toNat * 7 + 4, none⟩ = some (.int .i64 ((rd_T132 y302 0).f4)) := hcc38 4 _ rfl
   have hx38_5 : World.cell? _ ⟨go36, (0 : Int).toNat * 7 + 5, none⟩ = some (.int .i64 ((rd_T132 y302 0).f5)) := hcc38 5 _ rfl
   have hx38_6 : World.cell? _ ⟨go36, (0 : Int).toNat * 7 + 6, none⟩ = some (.bool ((rd_T132 y302 0).f6)) := hcc38 6 _ rfl
   have hf38_0 : World.frozen? _ ⟨go36, (0 : Int).toNat * 7, none⟩ = false := hfr38 0
   have hf38_1 : World.frozen? _ ⟨go36, (0 : Int).toNat * 7 + 1, none⟩ = false := hfr38 1
   have hf38_2 : World.frozen? _ ⟨go36, (0 : Int).toNat * 7 + 2, none⟩ = false := hfr38 2
   have hf38_3 : World.frozen? _ ⟨go36, (0 : Int).toNat * 7 + 3, none⟩ = false := hfr38 3
   have hf38_4 : World.frozen? _ ⟨go36, (0 : Int).toNat * 7 + 4, none⟩ = false := hfr38 4
   have hf38_5 : World.frozen? _ ⟨go36, (0 : Int).toNat * 7 + 5, none⟩ = false := hfr38 5
   have hf38_6 : World.frozen? _ ⟨go36, (0 : Int).toNat * 7 + 6, none⟩ = false := hfr38 6
   clear hcl38 hcc38 hfr38 hM38
   (try rw [zi0] at hx38_0)
   (try simp only [Nat.zero_mul, Nat.zero_add] at hx38_0)
   (try rw [zi0] at hf38_0)
   (try simp only [Nat.zero_mul, Nat.zero_add] at hf38_0)
   (try rw [zi0] at hx38_1)
   (try simp only [Nat.zero_mul, Nat.zero_add] at hx38_1)
   (try rw [zi0] at hf38_1)
   (try simp only [Nat.zero_mul, Nat.zero_add] at hf38_1)
   (try rw [zi0] at hx38_2)
   (try simp only [Nat.zero_mul, Nat.zero_add] at hx38_2)
   (try rw [zi0] at hf38_2)
   (try simp only [Nat.zero_mul, Nat.zero_add] at hf38_2)
   (try rw [zi0] at hx38_3)
   (try simp only [Nat.zero_mul, Nat.zero_add] at hx38_3)
   (try rw [zi0] at hf38_3)
   (try simp only [Nat.zero_mul, Nat.zero_add] at hf38_3)
   (try rw [zi0] at hx38_4)
   (try simp only [Nat.zero_mul, Nat.zero_add] at hx38_4)
   (try rw [zi0] at hf38_4)
   (try simp only [Nat.zero_mul, Nat.zero_add] at hf38_4)
   (try rw [zi0] at hx38_5)
   (try simp only [Nat.zero_mul, Nat.zero_add] at hx38_5)
   (try rw [zi0] at hf38_5)
   (try simp only [Nat.zero_mul, Nat.zero_add] at hf38_5)
   (try rw [zi0] at hx38_6)
   (try simp only [Nat.zero_mul, Nat.zero_add] at hx38_6)
   (try rw [zi0] at hf38_6)
   (try simp only [Nat.zero_mul, Nat.zero_add] at hf38_6)
   replace p38 := eq_true p38
   replace q38 := eq_true q38
   obtain ⟨ce59, hcl59, hM59, hcc59, hfr59⟩ := Kd.R_elem HO296.out z132 (0 : Int) (by omega) (by have h_ : (0 : Int) < ((t294.length : Int) : Int) := za; first | exact h_ | (have e_ := (Kd.R_reads' HO296.out).1; omega) | simpa using h_)
   obtain rfl := k132_openM hM59
   have HP59 := (Kd.R_seg HO296.out (0 : Int) (by omega) (by have h_ : (0 : Int) < ((t294.length : Int) : Int) := za; first | exact h_ | (have e_ := (Kd.R_reads' HO296.out).1; omega) | simpa using h_) (seg := [.int .i64 t304]) (j := 5) hcl59 hcc59 (show 6 ≤ 7 from by decide) (x' := (⟨(rd_T132 y302 0).f0, (rd_T132 y302 0).f1, (rd_T132 y302 0).f2, (rd_T132 y302 0).f3, (rd_T132 y302 0).f4, t304, (rd_T132 y302 0).f6⟩ : S132)) (k132_mkM _ _ _ (⟨(rd_T132 y302 0).f0, (rd_T132 y302 0).f1, (rd_T132 y302 0).f2, (rd_T132 y302 0).f3, (rd_T132 y302 0).f4, t304, (rd_T132 y302 0).f6⟩ : S132) ) (fun _ hk => hk)).1
   rw [← Ny305.out] at HP59
   have HQ59 := zA HP59
   clear hcl59 hcc59 hfr59 hM59 HP59
   refine hK.out _ _ ⟨zc0 BK299, zc1 BK299, zc2 BK299, zc3 BK299, zc4 BK299, hHeld.2.2.2.2.2⟩ (fun hHeld => ?_)
   clear hK K
   refine zN ?_
   refine zq HT_ 9 ?_
   refine zq HT_ 10 ?_
   refine zO HT_ 11 (fun K hK => ?_)
   refine skip_ (w1 := ?_) (by rfl) rfl ?_ ?_
   rotate_left
   ·go_simp
    rfl
   refine hK.out _ _ ?_
   clear hK K
   refine done_ (done_of HT_.out (by kernel_rfl)) ?_
   obtain ⟨_, hgg_⟩ := Kd.R_typed HO296.out go36 rfl
   replace GG36 := zA hgg_
   clear hgg_
   have n0_ : Aside0 (Kd.R (Kd.int .i64) 3 (w58.setCell ⟨go36, 5, none⟩ (.int .i64 t304)) w.heap.size (fun _ => True) (.slice Ao45 y282.length co45) y282) := ⟨by (with_reducible repeat (first | apply Kd.R_alloc | apply Kd.R_drewN | apply Kd.R_drew)); exact Kd.R_mono (Kd.R_far (p := ⟨go36, 5, none⟩) (Kd.R_types HO284.out GG36.out (by decide)) (fun _ hk => hk.2) (.int .i64 t304)) (fun _ hk => trivial)⟩
   have n1_ : Aside0 (Kd.R k132 132 (w58.setCell ⟨go36, 5, none⟩ (.int .i64 t304)) w.heap.size (fun k_ => some k_ ≠ (.slice (some ⟨go36, 0, none⟩) t294.length co53 : Value).ownBlock) (.slice Ao47 t287.length co47) t287) := ⟨by (with_reducible repeat (first | apply Kd.R_alloc | apply Kd.R_drewN | apply Kd.R_drew)); exact Kd.R_mono (Kd.R_far (p := ⟨go36, 5, none⟩) (Kd.R_mono HO289.out (fun k_ hk => (⟨hk, fun e_ => hk (by rw [e_]; rfl)⟩ : _ ∧ k_ ≠ go36))) (fun _ hk => hk.2) (.int .i64 t304)) (fun _ hk => hk.1)⟩
   have n2_ : Aside0 (Kd.R k132 132 (w58.setCell ⟨go36, 5, none⟩ (.int .i64 t304)) w.heap.size (fun k_ => some k_ ≠ (.slice Ao47 t287.length co47 : Value).ownBlock) (.slice (some ⟨go36, 0, none⟩) t294.length co53) y305) := ⟨zr HQ59⟩
   have n3_ : Aside0 ((w58.setCell ⟨go36, 5, none⟩ (.int .i64 t304)).heap[gb277]? = some (.cells #[.int .i64 a0_0, .int .i64 a0_1, .slice A0_2 l0_2.length c0_2, .int .i64 a0_3, .int .i64 a0_4] 68 (0, 0))) := ⟨by (with_reducible repeat (first | refine blk_drewN ?_ _ | refine blk_drew ?_ | refine blk_alloc ?_ _)); refine blk_far ?_ (by have h_ := Kd.R_ne HO296.out BK277.out (by decide); intro e_; exact h_ (by rw [e_]; rfl)) _; (with_reducible repeat (first | refine blk_drewN ?_ _ | refine blk_drew ?_ | refine blk_alloc ?_ _)); exact BK277.out⟩
   have n4_ : Aside0 ((w58.setCell ⟨go36, 5, none⟩ (.int .i64 t304)).heap[gb278]? = some (.cells #[.int .i64 0, .int .i64 0, .slice none 0 0, .int .i64 0, .int .i64 0] 68 (0, 0))) := ⟨by (with_reducible repeat (first | refine blk_drewN ?_ _ | refine blk_drew ?_ | refine blk_alloc ?_ _)); refine blk_far ?_ (by have h_ := Kd.R_ne HO296.out BK278.out (by decide); intro e_; exact h_ (by rw [e_]; rfl)) _; (with_reducible repeat (first | refine blk_drewN ?_ _ | refine blk_drew ?_ | refine blk_alloc ?_ _)); exact BK278.out⟩
   have n5_ : Aside0 ((w58.setCell ⟨go36, 5, none⟩ (.int .i64 t304)).heap[gb299]? = some (.cells #[.int .i64 t292, .int .i64 t293, .slice (some ⟨go36, 0, none⟩) t294.length co53, .int .i64 t297, .int .i64 t298] 68 (0, 0))) := ⟨by (with_reducible repeat (first | refine blk_drewN ?_ _ | refine blk_drew ?_ | refine blk_alloc ?_ _)); refine blk_far ?_ (by have h_ := Kd.R_ne HO296.out BK299.out (by decide); intro e_; exact h_ (by rw [e_]; rfl)) _; (with_reducible repeat (first | refine blk_drewN ?_ _ | refine blk_drew ?_ | refine blk_alloc ?_ _)); exact BK299.out⟩
   have n6_ : Aside0 (Below w.heap.size w (w58.setCell ⟨go36, 5, none⟩ (.int .i64 t304))) := ⟨by repeat (first | (with_reducible first | exact HB.out | apply below_alloc | apply pw_below_drewN | apply below_drew1 | refine below_set ?_ GB36.out | refine below_set ?_ GE277.out | refine below_set ?_ GE278.out | refine below_set ?_ GE299.out) | exact HB.out)⟩
   (try clear HO284)
   (try clear HO289)
   (try clear HO296)
   (try clear BK277)
   (try clear BK278)
   (try clear BK299)
   (try clear HB)
   generalize (w58.setCell ⟨go36, 5, none⟩ (.int .i64 t304)) = w60 at n0_ n1_ n2_ n3_ n4_ n5_ n6_ ⊢
   have HO284 := n0_
   have HO289 := n1_
   have HO296 := n2_
   have BK277 := n3_
   have BK278 := n4_
   have BK299 := n5_
   have HB := n6_
   clear n0_ n1_ n2_ n3_ n4_ n5_ n6_
   obtain ⟨hcz61_0, hcz61_1, hcz61_2, hcz61_3, hcz61_4⟩ := zd5 BK299
   obtain ⟨hfz61_0, hfz61_1, hfz61_2, hfz61_3, hfz61_4⟩ := zn5 BK299
   try go_wp2_with (first | ((with_reducible refine gate_callee (f := 132) rfl ?_); refine zgl (N := some 63) Try.func132 #[.agg #[.int .i64 t292, .int .i64 t293, .slice (some ⟨go36, 0, none⟩) t294.length co53, .int .i64 t297, .int .i64 t298], .int .i64 a3] ?_; (with_reducible refine (spec_l27After.calls t292 t293 (fun k_ => some k_ = (.slice (some ⟨go36, 0, none⟩) t294.length co53 : Value).ownBlock) (.slice (some ⟨go36, 0, none⟩) t294.length co53) y305 t297 t298 a3 t306 t307 t308 t311 t312 w _ ?side1 ?side2 A39.out).mono ?_); (case side1 => repeat (first | (with_reducible first | exact HB.out | apply below_alloc | apply pw_below_drewN | apply below_drew1 | refine below_set ?_ GE277.out | refine below_set ?_ GE278.out | refine below_set ?_ GE299.out) | exact HB.out)); (case side2 => exact Kd.R_tight rfl HO296.out); rintro e w62 ⟨v309, rfl, ho0, hb, hkp⟩; refine ⟨_, rfl, ?_⟩; have HO310 := zA (Kd.R_mono (ok' := fun k_ => some k_ ≠ (.slice Ao47 t287.length co47 : Value).ownBlock) ho0 (fun k_ hk_ => Or.elim hk_ (fun hs_ => fun e_ => (((HO289.out).1 k_ e_.symm)) hs_) (fun hn_ => (Kd.fresh' (Kd.R_lt (zr HO289)) k_ hn_)))); replace BK277 := zA (blk_kept (zh BK277) hkp (fun hs_ => (fun e_ => (Kd.R_ne HO296.out BK277.out (by decide)) e_) hs_)); replace BK278 := zA (blk_kept (zh BK278) hkp (fun hs_ => (fun e_ => (Kd.R_ne HO296.out BK278.out (by decide)) e_) hs_)); replace HO284 := zA (Kd.R_mono (ok' := fun k_ => True) (Kd.R_keptB ((Kd.R_apart' HO284.out (Kd.R_typed HO296.out) (by decide))) hkp (fun k_ hk_ hs_ => (hk_.2) hs_)) (fun k_ hk_ => trivial)); replace HO289 := zA (Kd.R_mono (ok' := fun k_ => some k_ ≠ (v309 : Value).ownBlock) (Kd.R_keptB (HO289.out) hkp (fun k_ hk_ hs_ => (hk_) hs_)) (fun k_ hk_ => fun e_ => Or.elim (ho0.1 k_ e_.symm) (fun hs_ => hk_.2.1 hs_) (fun hn_ => Nat.not_le.2 hk_.2.2 hn_))); replace BK299 := zA (blk_kept (zh BK299) hkp (fun hs_ => (fun e_ => (Kd.R_ne HO296.out BK299.out (by decide)) e_) hs_)); replace HB := zA (hb); clear HO296; (try clear hb); (try clear hkp); (try clear ho0); obtain ⟨Ao63, co63, eo63⟩ := Kd.R_slice HO310.out; subst eo63) | ((with_reducible refine gate_callee (f := 131) rfl ?_); refine zgl (N := some 64) Try.func131 #[.agg #[.int .i64 t306, .int .i64 t307, .slice Ao63 t308.length co63, .int .i64 t311, .int .i64 t312]] ?_; (with_reducible refine (spec_l27Can.calls kj4 t306 t307 (fun k_ => some k_ = (.slice Ao63 t308.length co63 : Value).ownBlock) (.slice Ao63 t308.length co63) t308 t311 t312 t313 t314 t315 t318 t319 t320 w _ ?side1 ?side2 A40.out).mono ?_); (case side1 => repeat (first | (with_reducible first | exact HB.out | apply below_alloc | apply pw_below_drewN | apply below_drew1 | refine below_set ?_ GE277.out | refine below_set ?_ GE278.out | refine below_set ?_ GE299.out) | exact HB.out)); (case side2 => exact Kd.R_tight rfl HO310.out); rintro e w64 ⟨v316, rfl, ho0, hb, hkp⟩; refine ⟨_, rfl, ?_⟩; have HO317 := zA (Kd.R_mono (ok' := fun k_ => some k_ ≠ (.slice Ao47 t287.length co47 : Value).ownBlock) ho0 (fun k_ hk_ => Or.elim hk_ (fun hs_ => fun e_ => (((HO289.out).1 k_ e_.symm)) hs_) (fun hn_ => (Kd.fresh' (Kd.R_lt (zr HO289)) k_ hn_)))); replace BK277 := zA (blk_kept (zh BK277) hkp (fun hs_ => (fun e_ => (Kd.R_ne HO310.out BK277.out (by decide)) e_) hs_)); replace BK278 := zA (blk_kept (zh BK278) hkp (fun hs_ => (fun e_ => (Kd.R_ne HO310.out BK278.out (by decide)) e_) hs_)); replace HO284 := zA (Kd.R_mono (ok' := fun k_ => True) (Kd.R_keptB ((Kd.R_apart' HO284.out (Kd.R_typed HO310.out) (by decide))) hkp (fun k_ hk_ hs_ => (hk_.2) hs_)) (fun k_ hk_ => trivial)); replace HO289 := zA (Kd.R_mono (ok' := fun k_ => some k_ ≠ (v316 : Value).ownBlock) (Kd.R_keptB (HO289.out) hkp (fun k_ hk_ hs_ => (hk_) hs_)) (fun k_ hk_ => fun e_ => Or.elim (ho0.1 k_ e_.symm) (fun hs_ => hk_.2.1 hs_) (fun hn_ => Nat.not_le.2 hk_.2.2 hn_))); replace BK299 := zA (blk_kept (zh BK299) hkp (fun hs_ => (fun e_ => (Kd.R_ne HO310.out BK299.out (by decide)) e_) hs_)); replace HB := zA (hb); clear HO310; (try clear hb); (try clear hkp); (try clear ho0); obtain ⟨hcz65_0, hcz65_1, hcz65_2, hcz65_3, hcz65_4⟩ := zd5 BK278; obtain ⟨hfz65_0, hfz65_1, hfz65_2, hfz65_3, hfz65_4⟩ := zn5 BK278; obtain ⟨Ao66, co66, eo66⟩ := Kd.R_slice HO317.out; subst eo66))
   refine bodyPost_ret (results_ct rfl _ _ gb278 68 #[.int .i64 t313, .int .i64 t314, .slice Ao66 t315.length co66, .int .i64 t318, .int .i64 t319] (0, 0) _ rfl ?hz Try.underlying68 rfl (by kernel_rfl)) rfl ?_; (case hz => exact zpb BK278)
   exact ⟨_, ze, by (with_reducible repeat (first | apply Kd.R_alloc | apply Kd.R_drewN | apply Kd.R_drew)); exact Kd.R_mono (Kd.R_far (p := ⟨gb278, 4, none⟩) (Kd.R_far (p := ⟨gb278, 3, none⟩) (Kd.R_far (p := ⟨gb278, 2, none⟩) (Kd.R_far (p := ⟨gb278, 1, none⟩) (Kd.R_far (p := ⟨gb278, 0, none⟩) (Kd.R_types HO317.out BK278.out (by decide)) (fun _ hk => hk.2) (.int .i64 t313)) (fun _ hk => hk.2) (.int .i64 t314)) (fun _ hk => hk.2) (.slice Ao66 t315.length co66)) (fun _ hk => hk.2) (.int .i64 t318)) (fun _ hk => hk.2) (.int .i64 t319)) (fun _ hk => trivial), zs3 HB GE277 GE278 GE299⟩
end Go.Proofs.Ytbmplfpnhjhoiaa.QFnExactFlyRest
