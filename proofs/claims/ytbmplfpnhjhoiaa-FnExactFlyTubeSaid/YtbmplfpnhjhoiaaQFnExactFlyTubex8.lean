/- The walk of what the law FnExactFlyTube reaches: laid by a program of this session (ownprint.py). -/
import Derived.Test.YtbmplfpnhjhoiaaQFnExactFlyTubex0
import Derived.Test.YtbmplfpnhjhoiaaQFnExactFlyTubex7
namespace Go.Proofs.Ytbmplfpnhjhoiaa.QFnExactFlyTube
open Go.RowKit Go.Proofs.YtbmplfpnhjhoiaaW.PrintWords Go.Proofs.YtbmplfpnhjhoiaaW.PrintLast Go.Proofs.YtbmplfpnhjhoiaaW.PrintMore Go.Proofs.Ytbmplfpnhjhoiaa.Z
attribute [local go_sem] max2_int min2_int max_two min_two max_three min_three max_four min_four zdn   -- for this text's walks alone
set_option linter.unusedVariables false
set_option linter.unusedSimpArgs false
mutual
def impl_FlyPathOk.j0 : Nat → Bool → Int → Int → List (S132) → Int → Int → Option (Bool)
 | 0, _, _, _, _, _, _ => none
 | k + 1, x24, x240000, x240001, x240002, x240003, x240004 => if x24 = true then (some false) else (impl_FlyPathOk.l0 k x240002 (x240002.length : Int) 0 x240000 x240001 x240002 x240003 x240004)
def impl_FlyPathOk.l0 : Nat → List (S132) → Int → Int → Int → Int → List (S132) → Int → Int → Option (Bool)
 | 0, _, _, _, _, _, _, _, _ => none
 | k + 1, x26, x27, x28, x240000, x240001, x240002, x240003, x240004 => if x28 < x27 then (if 0 ≤ x28 then (if x28 < (x26.length : Int) then ((impl_within.f ((rd_T132 x26 x28).f0) 0 15).bind fun t245 => (if t245 = true then ((impl_within.f ((rd_T132 x26 x28).f1) 0 15).bind fun t246 => (if t246 = true then (if 0 ≤ ((rd_T132 x26 x28).f2) then (if ((rd_T132 x26 x28).f2) ≤ ((rd_T132 x26 x28).f3) then (if (((rd_T132 x26 x28).f3) ≤ 6) then ((impl_window.f ((rd_T132 x26 x28).f4) ((rd_T132 x26 x28).f5)).bind fun t247 => (impl_FlyPathOk.j2 k x28 x26 x27 x28 (!t247) x240000 x240001 x240002 x240003 x240004 ((rd_T132 x26 x28).f0) ((rd_T132 x26 x28).f1) ((rd_T132 x26 x28).f2) ((rd_T132 x26 x28).f3) ((rd_T132 x26 x28).f4) ((rd_T132 x26 x28).f5) ((rd_T132 x26 x28).f6))) else (impl_FlyPathOk.j2 k x28 x26 x27 x28 true x240000 x240001 x240002 x240003 x240004 ((rd_T132 x26 x28).f0) ((rd_T132 x26 x28).f1) ((rd_T132 x26 x28).f2) ((rd_T132 x26 x28).f3) ((rd_T132 x26 x28).f4) ((rd_T132 x26 x28).f5) ((rd_T132 x26 x28).f6))) else (impl_FlyPathOk.j2 k x28 x26 x27 x28 true x240000 x240001 x240002 x240003 x240004 ((rd_T132 x26 x28).f0) ((rd_T132 x26 x28).f1) ((rd_T132 x26 x28).f2) ((rd_T132 x26 x28).f3) ((rd_T132 x26 x28).f4) ((rd_T132 x26 x28).f5) ((rd_T132 x26 x28).f6))) else (impl_FlyPathOk.j2 k x28 x26 x27 x28 true x240000 x240001 x240002 x240003 x240004 ((rd_T132 x26 x28).f0) ((rd_T132 x26 x28).f1) ((rd_T132 x26 x28).f2) ((rd_T132 x26 x28).f3) ((rd_T132 x26 x28).f4) ((rd_T132 x26 x28).f5) ((rd_T132 x26 x28).f6))) else (impl_FlyPathOk.j2 k x28 x26 x27 x28 true x240000 x240001 x240002 x240003 x240004 ((rd_T132 x26 x28).f0) ((rd_T132 x26 x28).f1) ((rd_T132 x26 x28).f2) ((rd_T132 x26 x28).f3) ((rd_T132 x26 x28).f4) ((rd_T132 x26 x28).f5) ((rd_T132 x26 x28).f6)))) else (impl_FlyPathOk.j2 k x28 x26 x27 x28 true x240000 x240001 x240002 x240003 x240004 ((rd_T132 x26 x28).f0) ((rd_T132 x26 x28).f1) ((rd_T132 x26 x28).f2) ((rd_T132 x26 x28).f3) ((rd_T132 x26 x28).f4) ((rd_T132 x26 x28).f5) ((rd_T132 x26 x28).f6)))) else (none)) else (none)) else (some true)
def impl_FlyPathOk.j2 : Nat → Int → List (S132) → Int → Int → Bool → Int → Int → List (S132) → Int → Int → Int → Int → Int → Int → Int → Int → Bool → Option (Bool)
 | 0, _, _, _, _, _, _, _, _, _, _, _, _, _, _, _, _, _ => none
 | k + 1, x3, x26, x27, x28, x68, x240000, x240001, x240002, x240003, x240004, x245000, x245001, x245002, x245003, x245004, x245005, x245006 => if x68 = true then (some false) else (if x3 = 0 then (impl_FlyPathOk.l0 k x26 x27 (wrap64 (x28 + 1)) x240000 x240001 x240002 x240003 x240004) else (if 0 ≤ (wrap64 (x3 - 1)) then (if (wrap64 (x3 - 1)) < (x240002.length : Int) then (if ((rd_T132 x240002 (wrap64 (x3 - 1))).f0) = x245000 then (if ((rd_T132 x240002 (wrap64 (x3 - 1))).f1) = x245001 then (some false) else ((impl_dist.f ((rd_T132 x240002 (wrap64 (x3 - 1))).f0) x245000).bind fun t250 => (if t250 > 1 then (some false) else ((impl_dist.f ((rd_T132 x240002 (wrap64 (x3 - 1))).f1) x245001).bind fun t251 => (if t251 > 1 then (some false) else (if ((rd_T132 x240002 (wrap64 (x3 - 1))).f2) > x245003 then (some false) else (if x245002 > ((rd_T132 x240002 (wrap64 (x3 - 1))).f3) then (some false) else (impl_FlyPathOk.l0 k x26 x27 (wrap64 (x28 + 1)) x240000 x240001 x240002 x240003 x240004)))))))) else ((impl_dist.f ((rd_T132 x240002 (wrap64 (x3 - 1))).f0) x245000).bind fun t252 => (if t252 > 1 then (some false) else ((impl_dist.f ((rd_T132 x240002 (wrap64 (x3 - 1))).f1) x245001).bind fun t253 => (if t253 > 1 then (some false) else (if ((rd_T132 x240002 (wrap64 (x3 - 1))).f2) > x245003 then (some false) else (if x245002 > ((rd_T132 x240002 (wrap64 (x3 - 1))).f3) then (some false) else (impl_FlyPathOk.l0 k x26 x27 (wrap64 (x28 + 1)) x240000 x240001 x240002 x240003 x240004)))))))) else (none)) else (none)))
end
def impl_FlyPathOk.f (k : Nat) (a0_0 : Int) (a0_1 : Int) (l0_2 : List (S132)) (a0_3 : Int) (a0_4 : Int) : Option (Bool) := (impl_FlyKindOk.f a0_0 a0_1).bind fun t240 => (if t240 = true then ((impl_within.f (l0_2.length : Int) 1 40).bind fun t241 => (if t241 = true then ((impl_window.f a0_3 a0_4).bind fun t242 => (impl_FlyPathOk.j0 k (!t242) a0_0 a0_1 l0_2 a0_3 a0_4)) else (impl_FlyPathOk.j0 k true a0_0 a0_1 l0_2 a0_3 a0_4))) else (impl_FlyPathOk.j0 k true a0_0 a0_1 l0_2 a0_3 a0_4))
set_option maxHeartbeats 8000000 in
set_option maxRecDepth 100000 in
theorem impl_FlyPathOk.calls (k : Nat) (a0_0 : Int) (a0_1 : Int) (A0_2 : Option Addr) (c0_2 : Nat) (l0_2 : List (S132)) (a0_3 : Int) (a0_4 : Int) (r : Bool) (w : World) (hr0_2 : Kd.C k132 w A0_2 l0_2.length l0_2) (hc0_2 : l0_2.length ≤ c0_2) (h : impl_FlyPathOk.f k a0_0 a0_1 l0_2 a0_3 a0_4 = some r) :
 Calls Try.prog 99 #[.agg #[.int .i64 a0_0, .int .i64 a0_1, .slice A0_2 l0_2.length c0_2, .int .i64 a0_3, .int .i64 a0_4]] w fun e w' => e = .returned (.bool r) ∧ Below w.heap.size w w' := by
 have hu68 := Try.underlying68
 have hu44 := Try.underlying44
 have hu132 := Try.underlying132
 have HR0_2 := zA hr0_2
 have HC0_2 := zA hc0_2
 clear hr0_2 hc0_2
 have HB := zA (Below.refl w.heap.size w)
 have H : ((impl_FlyKindOk.f a0_0 a0_1).bind fun t240 => (if t240 = true then ((impl_within.f (l0_2.length : Int) 1 40).bind fun t241 => (if t241 = true then ((impl_window.f a0_3 a0_4).bind fun t242 => (impl_FlyPathOk.j0 k (!t242) a0_0 a0_1 l0_2 a0_3 a0_4)) else (impl_FlyPathOk.j0 k true a0_0 a0_1 l0_2 a0_3 a0_4))) else (impl_FlyPathOk.j0 k true a0_0 a0_1 l0_2 a0_3 a0_4))) = some r := h
 clear h
 have HC2 := zA H
 clear H
 go_enter Try.func99, Try.ntmps99
 go_upto_region 1 with (first | ((with_reducible refine gate_dst (N := 1) rfl ?_); (try (refine gate_guard (by rfl) ?_; dsimp only)); refine box_event (by rfl) (N := 1) (by rfl) (cs := #[.int .i64 a0_0, .int .i64 a0_1, .slice A0_2 l0_2.length c0_2, .int .i64 a0_3, .int .i64 a0_4]) (t := 68) zg ?_; intro gb239 hg w3 hbox hb; have n0_ := zA (below_step (zs0 HB) hb); have n1_ := zA (hbox); have n2_ := zA ((by rw [hg]; exact (below_size (zs0 HB)) : w.heap.size ≤ gb239)); have n3_ := zA ((by rw [hg]; exact (below_size (zs0 HB)) : w.heap.size ≤ gb239)); clear HB; have HB := n0_; have BK239 := n1_; have GW239 := n2_; have GE239 := n3_; clear n0_ n1_ n2_ n3_; clear hb hbox hg))
 (try simp only [Act.put, List.setIfInBounds_toArray, List.set_cons_zero, List.set_cons_succ])
 go_cut [24] (fun v24 wc => ∃ (kq : Nat) (x24_1 : Bool), v24 = .bool x24_1 ∧ Aside0 (impl_FlyPathOk.j0 kq x24_1 a0_0 a0_1 l0_2 a0_3 a0_4 = some r) ∧ Aside0 (kq ≤ k) ∧ Aside0 (wc.heap[gb239]? = some (.cells #[.int .i64 a0_0, .int .i64 a0_1, (.slice A0_2 l0_2.length c0_2), .int .i64 a0_3, .int .i64 a0_4] 68 (0, 0))) ∧ Aside0 (Below w.heap.size w wc))
 case first =>
  have H := HC2.out
  clear HC2
  replace H := Option.bind_eq_some_iff.mp H
  obtain ⟨t240, A40, H⟩ := H
  replace H : (if t240 = true then ((impl_within.f (l0_2.length : Int) 1 40).bind fun t241 => (if t241 = true then ((impl_window.f a0_3 a0_4).bind fun t242 => (impl_FlyPathOk.j0 k (!t242) a0_0 a0_1 l0_2 a0_3 a0_4)) else (impl_FlyPathOk.j0 k true a0_0 a0_1 l0_2 a0_3 a0_4))) else (impl_FlyPathOk.j0 k true a0_0 a0_1 l0_2 a0_3 a0_4)) = some r := H
  have A4 := zA A40
  clear A40
  by_cases c5 : t240 = true
  rotate_left
  ·replace c5 := Bool.eq_false_iff.mpr c5
   subst c5
   have H1 : (impl_FlyPathOk.j0 k true a0_0 a0_1 l0_2 a0_3 a0_4) = some r := by rw [if_neg (show ¬ (false = true) by decide)] at H; exact H
   clear H
   have H := H1
   clear H1
   have H' := zA H
   clear H
   obtain ⟨hcz15_0, hcz15_1, hcz15_2, hcz15_3, hcz15_4⟩ := zd5 BK239
   obtain ⟨hfz15_0, hfz15_1, hfz15_2, hfz15_3, hfz15_4⟩ := zn5 BK239
   go_wp2_with (first | ((with_reducible refine gate_callee (f := 142) rfl ?_); refine goesL_ (some 8) rfl rfl Try.func142 (by kernel_rfl) rfl #[.agg #[.int .i64 a0_0, .int .i64 a0_1]] rfl zl ?_; (with_reducible refine (impl_FlyKindOk.calls a0_0 a0_1 false _ A4.out).mono ?_); rintro e w16 ⟨rfl, hb⟩; refine ⟨_, rfl, ?_⟩; have n0_ := zb BK239 hb; have n1_ := zA (below_step (zs1 HB GE239) hb); clear BK239 HB; revert n0_ n1_; intro BK239 HB; (try clear hb); (try clear hb2); (try clear hk); (try clear hi)))
   go_meet
   case rel => exact ⟨_, (true), zi, H', ⟨by first | omega | exact Nat.le_refl _⟩, ⟨zh BK239⟩, ⟨zs1 HB GE239⟩⟩
  subst c5
  have H1 : ((impl_within.f (l0_2.length : Int) 1 40).bind fun t241 => (if t241 = true then ((impl_window.f a0_3 a0_4).bind fun t242 => (impl_FlyPathOk.j0 k (!t242) a0_0 a0_1 l0_2 a0_3 a0_4)) else (impl_FlyPathOk.j0 k true a0_0 a0_1 l0_2 a0_3 a0_4))) = some r := by rw [if_pos rfl] at H; exact H
  clear H
  have H := H1
  clear H1
  replace H := Option.bind_eq_some_iff.mp H
  obtain ⟨t241, A60, H⟩ := H
  replace H : (if t241 = true then ((impl_window.f a0_3 a0_4).bind fun t242 => (impl_FlyPathOk.j0 k (!t242) a0_0 a0_1 l0_2 a0_3 a0_4)) else (impl_FlyPathOk.j0 k true a0_0 a0_1 l0_2 a0_3 a0_4)) = some r := H
  have A6 := zA A60
  clear A60
  by_cases c7 : t241 = true
  rotate_left
  ·replace c7 := Bool.eq_false_iff.mpr c7
   subst c7
   have H1 : (impl_FlyPathOk.j0 k true a0_0 a0_1 l0_2 a0_3 a0_4) = some r := by rw [if_neg (show ¬ (false = true) by decide)] at H; exact H
   clear H
   have H := H1
   clear H1
   have H' := zA H
   clear H
   obtain ⟨hcz12_0, hcz12_1, hcz12_2, hcz12_3, hcz12_4⟩ := zd5 BK239
   obtain ⟨hfz12_0, hfz12_1, hfz12_2, hfz12_3, hfz12_4⟩ := zn5 BK239
   go_wp2_with (first | ((with_reducible refine gate_callee (f := 142) rfl ?_); refine goesL_ (some 8) rfl rfl Try.func142 (by kernel_rfl) rfl #[.agg #[.int .i64 a0_0, .int .i64 a0_1]] rfl zl ?_; (with_reducible refine (impl_FlyKindOk.calls a0_0 a0_1 true _ A4.out).mono ?_); rintro e w13 ⟨rfl, hb⟩; refine ⟨_, rfl, ?_⟩; have n0_ := zb BK239 hb; have n1_ := zA (below_step (zs1 HB GE239) hb); clear BK239 HB; revert n0_ n1_; intro BK239 HB; (try clear hb); (try clear hb2); (try clear hk); (try clear hi); obtain ⟨hcz14_0, hcz14_1, hcz14_2, hcz14_3, hcz14_4⟩ := zd5 BK239; obtain ⟨hfz14_0, hfz14_1, hfz14_2, hfz14_3, hfz14_4⟩ := zn5 BK239) | (go_at_call 93; (with_reducible refine (impl_within.calls (l0_2.length : Int) 1 40 false _ A6.out).mono ?_); rintro e w' ⟨rfl, ⟨nd, rfl⟩⟩))
   go_meet
   case rel => exact ⟨_, (true), zi, H', ⟨by first | omega | exact Nat.le_refl _⟩, ⟨zh BK239⟩, ⟨zs1 HB GE239⟩⟩
  subst c7
  have H1 : ((impl_window.f a0_3 a0_4).bind fun t242 => (impl_FlyPathOk.j0 k (!t242) a0_0 a0_1 l0_2 a0_3 a0_4)) = some r := by rw [if_pos rfl] at H; exact H
  clear H
  have H := H1
  clear H1
  replace H := Option.bind_eq_some_iff.mp H
  obtain ⟨t242, A80, H⟩ := H
  replace H : (impl_FlyPathOk.j0 k (!t242) a0_0 a0_1 l0_2 a0_3 a0_4) = some r := H
  have A8 := zA A80
  clear A80
  have H' := zA H
  clear H
  obtain ⟨hcz9_0, hcz9_1, hcz9_2, hcz9_3, hcz9_4⟩ := zd5 BK239
  obtain ⟨hfz9_0, hfz9_1, hfz9_2, hfz9_3, hfz9_4⟩ := zn5 BK239
  go_wp2_with (first | ((with_reducible refine gate_callee (f := 142) rfl ?_); refine goesL_ (some 8) rfl rfl Try.func142 (by kernel_rfl) rfl #[.agg #[.int .i64 a0_0, .int .i64 a0_1]] rfl zl ?_; (with_reducible refine (impl_FlyKindOk.calls a0_0 a0_1 true _ A4.out).mono ?_); rintro e w10 ⟨rfl, hb⟩; refine ⟨_, rfl, ?_⟩; have n0_ := zb BK239 hb; have n1_ := zA (below_step (zs1 HB GE239) hb); clear BK239 HB; revert n0_ n1_; intro BK239 HB; (try clear hb); (try clear hb2); (try clear hk); (try clear hi); obtain ⟨hcz11_0, hcz11_1, hcz11_2, hcz11_3, hcz11_4⟩ := zd5 BK239; obtain ⟨hfz11_0, hfz11_1, hfz11_2, hfz11_3, hfz11_4⟩ := zn5 BK239) | (go_at_call 93; (with_reducible refine (impl_within.calls (l0_2.length : Int) 1 40 true _ A6.out).mono ?_); rintro e w' ⟨rfl, ⟨nd, rfl⟩⟩) | (go_at_call 143; (with_reducible refine (impl_window.calls a0_3 a0_4 t242 _ A8.out).mono ?_); rintro e w' ⟨rfl, ⟨nd, rfl⟩⟩))
  go_meet
  case rel => exact ⟨_, (!t242), zi, H', ⟨by first | omega | exact Nat.le_refl _⟩, ⟨zh BK239⟩, ⟨zs1 HB GE239⟩⟩
 case rest =>
  clear HC2
  try clear c1
  try clear p2
  try clear c5
  try clear c7
  try clear c9
  try clear c14
  try clear hcz11_0
  try clear hcz11_1
  try clear hcz11_2
  try clear hcz11_3
  try clear hcz11_4
  try clear hcz12_0
  try clear hcz12_1
  try clear hcz12_2
  try clear hcz12_3
  try clear hcz12_4
  try clear hcz14_0
  try clear hcz14_1
  try clear hcz14_2
  try clear hcz14_3
  try clear hcz14_4
  try clear hcz15_0
  try clear hcz15_1
  try clear hcz15_2
  try clear hcz15_3
  try clear hcz15_4
  try clear hcz9_0
  try clear hcz9_1
  try clear hcz9_2
  try clear hcz9_3
  try clear hcz9_4
  try clear hfz11_0
  try clear hfz11_1
  try clear hfz11_2
  try clear hfz11_3
  try clear hfz11_4
  try clear hfz12_0
  try clear hfz12_1
  try clear hfz12_2
  try clear hfz12_3
  try clear hfz12_4
  try clear hfz14_0
  try clear hfz14_1
  try clear hfz14_2
  try clear hfz14_3
  try clear hfz14_4
  try clear hfz15_0
  try clear hfz15_1
  try clear hfz15_2
  try clear hfz15_3
  try clear hfz15_4
  try clear hfz9_0
  try clear hfz9_1
  try clear hfz9_2
  try clear hfz9_3
  try clear hfz9_4
  obtain ⟨kq, x24_1, rfl, HA, HJ1, BK239, HB⟩ := hcut
  cases kq with
  | zero => exact absurd HA.out (by simp [impl_FlyPathOk.j0])
  | succ kj1 =>
   have H := HA.out
   clear HA
   simp only [impl_FlyPathOk.j0] at H
   by_cases c17 : x24_1 = true
   ·subst c17
    have H1 : (some false) = some r := by rw [if_pos rfl] at H; exact H
    clear H
    have H := H1
    clear H1
    obtain rfl := Option.some.inj H
    go_wp2
    go_ret
    exact ⟨ze, zs1 HB GE239⟩
   replace c17 := Bool.eq_false_iff.mpr c17
   subst c17
   have H1 : (impl_FlyPathOk.l0 kj1 l0_2 (l0_2.length : Int) 0 a0_0 a0_1 l0_2 a0_3 a0_4) = some r := by rw [if_neg (show ¬ (false = true) by decide)] at H; exact H
   clear H
   have H := H1
   clear H1
   have H' := zA H
   clear H
   obtain ⟨hcz18_0, hcz18_1, hcz18_2, hcz18_3, hcz18_4⟩ := zd5 BK239
   obtain ⟨hfz18_0, hfz18_1, hfz18_2, hfz18_3, hfz18_4⟩ := zn5 BK239
   go_wp2
   go_loopg [28] kj1 (fun kq v28 w' => ∃ (x28_2 : Int), v28 = .int .i64 x28_2 ∧ Aside0 (impl_FlyPathOk.l0 kq l0_2 (l0_2.length : Int) x28_2 a0_0 a0_1 l0_2 a0_3 a0_4 = some r) ∧ Aside0 (kq ≤ kj1) ∧ Aside0 (w'.heap[gb239]? = some (.cells #[.int .i64 a0_0, .int .i64 a0_1, (.slice A0_2 l0_2.length c0_2), .int .i64 a0_3, .int .i64 a0_4] 68 (0, 0))) ∧ Aside0 (Below w.heap.size w w'))
   case atStart => exact ⟨(0), zi, H', ⟨Nat.le_refl _⟩, ⟨zh BK239⟩, ⟨zs1 HB GE239⟩⟩
   case round =>
    clear H'
    try clear c1
    try clear p2
    try clear c5
    try clear c7
    try clear c9
    try clear c14
    try clear c17
    try clear hcz11_0
    try clear hcz11_1
    try clear hcz11_2
    try clear hcz11_3
    try clear hcz11_4
    try clear hcz12_0
    try clear hcz12_1
    try clear hcz12_2
    try clear hcz12_3
    try clear hcz12_4
    try clear hcz14_0
    try clear hcz14_1
    try clear hcz14_2
    try clear hcz14_3
    try clear hcz14_4
    try clear hcz15_0
    try clear hcz15_1
    try clear hcz15_2
    try clear hcz15_3
    try clear hcz15_4
    try clear hcz18_0
    try clear hcz18_1
    try clear hcz18_2
    try clear hcz18_3
    try clear hcz18_4
    try clear hcz9_0
    try clear hcz9_1
    try clear hcz9_2
    try clear hcz9_3
    try clear hcz9_4
    try clear hfz11_0
    try clear hfz11_1
    try clear hfz11_2
    try clear hfz11_3
    try clear hfz11_4
    try clear hfz12_0
    try clear hfz12_1
    try clear hfz12_2
    try clear hfz12_3
    try clear hfz12_4
    try clear hfz14_0
    try clear hfz14_1
    try clear hfz14_2
    try clear hfz14_3
    try clear hfz14_4
    try clear hfz15_0
    try clear hfz15_1
    try clear hfz15_2
    try clear hfz15_3
    try clear hfz15_4
    try clear hfz18_0
    try clear hfz18_1
    try clear hfz18_2
    try clear hfz18_3
    try clear hfz18_4
    try clear hfz9_0
    try clear hfz9_1
    try clear hfz9_2
    try clear hfz9_3
    try clear hfz9_4
    try clear p2
    obtain ⟨x28_2, rfl, HA, HK2, BK239, HB⟩ := hrel
    cases gk with
    | zero => exact absurd HA.out (by simp [impl_FlyPathOk.l0])
    | succ k2 =>
     have H := HA.out
     clear HA
     simp only [impl_FlyPathOk.l0] at H
     by_cases c19 : x28_2 < (l0_2.length : Int)
     rotate_left
     ·rw [if_neg c19] at H
      have c19b0 : decide (x28_2 < (l0_2.length : Int)) = false := decide_eq_false c19
      clear c19
      obtain rfl := Option.some.inj H
      go_wp2
      go_ret
      exact ⟨ze, zs1 HB GE239⟩
     rw [if_pos c19] at H
     have c19b0 : decide (x28_2 < (l0_2.length : Int)) = true := decide_eq_true c19
     clear c19
     by_cases c20 : 0 ≤ x28_2
     rotate_left
     ·rw [if_neg c20] at H
      exact absurd H (by simp)
     rw [if_pos c20] at H
     have c20b0 : decide (0 ≤ x28_2) = true := decide_eq_true c20
     clear c20
     by_cases c21 : x28_2 < (l0_2.length : Int)
     rotate_left
     ·rw [if_neg c21] at H
      exact absurd H (by simp)
     rw [if_pos c21] at H
     have c21b0 : decide (x28_2 < (l0_2.length : Int)) = true := decide_eq_true c21
     clear c21
     have HC22 := zA H
     clear H
     have p243 : 0 ≤ (x28_2 : Int) := za
     have q243 : x28_2 < (l0_2.length : Int) := za
     obtain ⟨ad243, e243, hx243_0, hx243_1, hx243_2, hx243_3, hx243_4, hx243_5, hx243_6⟩ := at_T132 HR0_2.out x28_2 p243 q243
     cases e243
     replace hx243_0 := zx HB hx243_0
     replace hx243_1 := zx HB hx243_1
     replace hx243_2 := zx HB hx243_2
     replace hx243_3 := zx HB hx243_3
     replace hx243_4 := zx HB hx243_4
     replace hx243_5 := zx HB hx243_5
     replace hx243_6 := zx HB hx243_6
     replace p243 := eq_true p243
     replace q243 := eq_true q243
     go_upto_region 6 with (first | ((with_reducible refine gate_dst (N := 4) rfl ?_); (try (refine gate_guard (by rfl) ?_; dsimp only)); refine box_event (by rfl) (N := 4) (by rfl) (cs := #[.int .i64 0, .int .i64 0, .int .i64 0, .int .i64 0, .int .i64 0, .int .i64 0, .bool false]) (t := 132) zg ?_; intro gb244 hg w23 hbox hb; have n0_ := zb BK239 hb; have n1_ := zA (below_step (zs1 HB GE239) hb); have n2_ := zA (hbox); have n3_ := zA ((by rw [hg]; exact (below_size (zs1 HB GE239)) : w.heap.size ≤ gb244)); have n4_ := zA ((by rw [hg]; exact (below_size (zs1 HB GE239)) : w.heap.size ≤ gb244)); have n5_ := zA ((by rw [hg]; exact Nat.ne_of_lt (blk_lt (g := gb239) (o := .cells #[.int .i64 a0_0, .int .i64 a0_1, .slice (some ad243) l0_2.length c0_2, .int .i64 a0_3, .int .i64 a0_4] 68 (0, 0)) (zh BK239)) : gb239 ≠ gb244)); have n6_ := zA ((by rw [hg]; exact Nat.ne_of_gt (blk_lt (g := gb239) (o := .cells #[.int .i64 a0_0, .int .i64 a0_1, .slice (some ad243) l0_2.length c0_2, .int .i64 a0_3, .int .i64 a0_4] 68 (0, 0)) (zh BK239)) : gb244 ≠ gb239)); clear BK239; clear HB; have BK239 := n0_; have HB := n1_; have BK244 := n2_; have GW244 := n3_; have GE244 := n4_; have NB239_244 := n5_; have NB244_239 := n6_; clear n0_ n1_ n2_ n3_ n4_ n5_ n6_; clear hb hbox hg; have hnb24 := NB244_239.out; have hnc24 := NB239_244.out; obtain ⟨hcz25_0, hcz25_1, hcz25_2, hcz25_3, hcz25_4, hcz25_5, hcz25_6⟩ := zd7 BK244; obtain ⟨hfz25_0, hfz25_1, hfz25_2, hfz25_3, hfz25_4, hfz25_5, hfz25_6⟩ := zn7 BK244))
     (try simp only [Act.put, List.setIfInBounds_toArray, List.set_cons_zero, List.set_cons_succ])
     go_cut [68] (fun v68 wc => ∃ (kq : Nat) (x68_21 : Bool), v68 = .bool x68_21 ∧ Aside0 (impl_FlyPathOk.j2 kq x28_2 l0_2 (l0_2.length : Int) x28_2 x68_21 a0_0 a0_1 l0_2 a0_3 a0_4 ((rd_T132 l0_2 x28_2).f0) ((rd_T132 l0_2 x28_2).f1) ((rd_T132 l0_2 x28_2).f2) ((rd_T132 l0_2 x28_2).f3) ((rd_T132 l0_2 x28_2).f4) ((rd_T132 l0_2 x28_2).f5) ((rd_T132 l0_2 x28_2).f6) = some r) ∧ Aside0 (kq ≤ k2) ∧ Aside0 (wc.heap[gb239]? = some (.cells #[.int .i64 a0_0, .int .i64 a0_1, (.slice (some ad243) l0_2.length c0_2), .int .i64 a0_3, .int .i64 a0_4] 68 (0, 0))) ∧ Aside0 (wc.heap[gb244]? = some (.cells #[.int .i64 ((rd_T132 l0_2 x28_2).f0), .int .i64 ((rd_T132 l0_2 x28_2).f1), .int .i64 ((rd_T132 l0_2 x28_2).f2), .int .i64 ((rd_T132 l0_2 x28_2).f3), .int .i64 ((rd_T132 l0_2 x28_2).f4), .int .i64 ((rd_T132 l0_2 x28_2).f5), .bool ((rd_T132 l0_2 x28_2).f6)] 132 (0, 0))) ∧ Aside0 (Below w.heap.size w wc))
     case first =>
      have H := HC22.out
      clear HC22
      replace H := Option.bind_eq_some_iff.mp H
      obtain ⟨t245, A260, H⟩ := H
      replace H : (if t245 = true then ((impl_within.f ((rd_T132 l0_2 x28_2).f1) 0 15).bind fun t246 => (if t246 = true then (if 0 ≤ ((rd_T132 l0_2 x28_2).f2) then (if ((rd_T132 l0_2 x28_2).f2) ≤ ((rd_T132 l0_2 x28_2).f3) then (if (((rd_T132 l0_2 x28_2).f3) ≤ 6) then ((impl_window.f ((rd_T132 l0_2 x28_2).f4) ((rd_T132 l0_2 x28_2).f5)).bind fun t247 => (impl_FlyPathOk.j2 k2 x28_2 l0_2 (l0_2.length : Int) x28_2 (!t247) a0_0 a0_1 l0_2 a0_3 a0_4 ((rd_T132 l0_2 x28_2).f0) ((rd_T132 l0_2 x28_2).f1) ((rd_T132 l0_2 x28_2).f2) ((rd_T132 l0_2 x28_2).f3) ((rd_T132 l0_2 x28_2).f4) ((rd_T132 l0_2 x28_2).f5) ((rd_T132 l0_2 x28_2).f6))) else (impl_FlyPathOk.j2 k2 x28_2 l0_2 (l0_2.length : Int) x28_2 true a0_0 a0_1 l0_2 a0_3 a0_4 ((rd_T132 l0_2 x28_2).f0) ((rd_T132 l0_2 x28_2).f1) ((rd_T132 l0_2 x28_2).f2) ((rd_T132 l0_2 x28_2).f3) ((rd_T132 l0_2 x28_2).f4) ((rd_T132 l0_2 x28_2).f5) ((rd_T132 l0_2 x28_2).f6))) else (impl_FlyPathOk.j2 k2 x28_2 l0_2 (l0_2.length : Int) x28_2 true a0_0 a0_1 l0_2 a0_3 a0_4 ((rd_T132 l0_2 x28_2).f0) ((rd_T132 l0_2 x28_2).f1) ((rd_T132 l0_2 x28_2).f2) ((rd_T132 l0_2 x28_2).f3) ((rd_T132 l0_2 x28_2).f4) ((rd_T132 l0_2 x28_2).f5) ((rd_T132 l0_2 x28_2).f6))) else (impl_FlyPathOk.j2 k2 x28_2 l0_2 (l0_2.length : Int) x28_2 true a0_0 a0_1 l0_2 a0_3 a0_4 ((rd_T132 l0_2 x28_2).f0) ((rd_T132 l0_2 x28_2).f1) ((rd_T132 l0_2 x28_2).f2) ((rd_T132 l0_2 x28_2).f3) ((rd_T132 l0_2 x28_2).f4) ((rd_T132 l0_2 x28_2).f5) ((rd_T132 l0_2 x28_2).f6))) else (impl_FlyPathOk.j2 k2 x28_2 l0_2 (l0_2.length : Int) x28_2 true a0_0 a0_1 l0_2 a0_3 a0_4 ((rd_T132 l0_2 x28_2).f0) ((rd_T132 l0_2 x28_2).f1) ((rd_T132 l0_2 x28_2).f2) ((rd_T132 l0_2 x28_2).f3) ((rd_T132 l0_2 x28_2).f4) ((rd_T132 l0_2 x28_2).f5) ((rd_T132 l0_2 x28_2).f6)))) else (impl_FlyPathOk.j2 k2 x28_2 l0_2 (l0_2.length : Int) x28_2 true a0_0 a0_1 l0_2 a0_3 a0_4 ((rd_T132 l0_2 x28_2).f0) ((rd_T132 l0_2 x28_2).f1) ((rd_T132 l0_2 x28_2).f2) ((rd_T132 l0_2 x28_2).f3) ((rd_T132 l0_2 x28_2).f4) ((rd_T132 l0_2 x28_2).f5) ((rd_T132 l0_2 x28_2).f6))) = some r := H
      have A26 := zA A260
      clear A260
      by_cases c27 : t245 = true
      rotate_left
      ·replace c27 := Bool.eq_false_iff.mpr c27
       subst c27
       have H1 : (impl_FlyPathOk.j2 k2 x28_2 l0_2 (l0_2.length : Int) x28_2 true a0_0 a0_1 l0_2 a0_3 a0_4 ((rd_T132 l0_2 x28_2).f0) ((rd_T132 l0_2 x28_2).f1) ((rd_T132 l0_2 x28_2).f2) ((rd_T132 l0_2 x28_2).f3) ((rd_T132 l0_2 x28_2).f4) ((rd_T132 l0_2 x28_2).f5) ((rd_T132 l0_2 x28_2).f6)) = some r := by rw [if_neg (show ¬ (false = true) by decide)] at H; exact H
       clear H
       have H := H1
       clear H1
       have H' := zA H
       clear H
       have hnb44 := NB244_239.out
       have hnc44 := NB239_244.out
       obtain ⟨hcz45_0, hcz45_1, hcz45_2, hcz45_3, hcz45_4, hcz45_5, hcz45_6⟩ := zd7 BK244
       obtain ⟨hfz45_0, hfz45_1, hfz45_2, hfz45_3, hfz45_4, hfz45_5, hfz45_6⟩ := zn7 BK244
       go_wp2_with (first | ((with_reducible refine gate_callee (f := 93) rfl ?_); refine goesL_ (some 35) rfl rfl Try.func93 (by kernel_rfl) rfl #[.int .i64 ((rd_T132 l0_2 x28_2).f0), .int .i64 0, .int .i64 15] rfl zl ?_; (with_reducible refine (impl_within.calls ((rd_T132 l0_2 x28_2).f0) 0 15 false _ A26.out).mono ?_); rintro e w' ⟨rfl, ⟨nd, rfl⟩⟩; refine ⟨_, rfl, ?_⟩))
       go_meet
       case rel => exact ⟨_, (true), zi, H', ⟨by have := HJ1.out; have := HK2.out; first | omega | exact Nat.le_refl _⟩, ⟨by (with_reducible repeat (first | refine blk_drewN ?_ _ | refine blk_drew ?_ | refine blk_alloc ?_ _)); refine blk_far ?_ NB239_244.out _; (with_reducible repeat (first | refine blk_drewN ?_ _ | refine blk_drew ?_ | refine blk_alloc ?_ _)); refine blk_far ?_ NB239_244.out _; (with_reducible repeat (first | refine blk_drewN ?_ _ | refine blk_drew ?_ | refine blk_alloc ?_ _)); refine blk_far ?_ NB239_244.out _; (with_reducible repeat (first | refine blk_drewN ?_ _ | refine blk_drew ?_ | refine blk_alloc ?_ _)); refine blk_far ?_ NB239_244.out _; (with_reducible repeat (first | refine blk_drewN ?_ _ | refine blk_drew ?_ | refine blk_alloc ?_ _)); refine blk_far ?_ NB239_244.out _; (with_reducible repeat (first | refine blk_drewN ?_ _ | refine blk_drew ?_ | refine blk_alloc ?_ _)); refine blk_far ?_ NB239_244.out _; (with_reducible repeat (first | refine blk_drewN ?_ _ | refine blk_drew ?_ | refine blk_alloc ?_ _)); refine blk_far ?_ NB239_244.out _; (with_reducible repeat (first | refine blk_drewN ?_ _ | refine blk_drew ?_ | refine blk_alloc ?_ _)); exact BK239.out⟩, ⟨by (with_reducible repeat (first | refine blk_drewN ?_ _ | refine blk_drew ?_ | refine blk_alloc ?_ _)); refine blk_put (cs := #[.int .i64 ((rd_T132 l0_2 x28_2).f0), .int .i64 ((rd_T132 l0_2 x28_2).f1), .int .i64 ((rd_T132 l0_2 x28_2).f2), .int .i64 ((rd_T132 l0_2 x28_2).f3), .int .i64 ((rd_T132 l0_2 x28_2).f4), .int .i64 ((rd_T132 l0_2 x28_2).f5), .bool false]) ?_ 6 _ rfl; (with_reducible repeat (first | refine blk_drewN ?_ _ | refine blk_drew ?_ | refine blk_alloc ?_ _)); refine blk_put (cs := #[.int .i64 ((rd_T132 l0_2 x28_2).f0), .int .i64 ((rd_T132 l0_2 x28_2).f1), .int .i64 ((rd_T132 l0_2 x28_2).f2), .int .i64 ((rd_T132 l0_2 x28_2).f3), .int .i64 ((rd_T132 l0_2 x28_2).f4), .int .i64 0, .bool false]) ?_ 5 _ rfl; (with_reducible repeat (first | refine blk_drewN ?_ _ | refine blk_drew ?_ | refine blk_alloc ?_ _)); refine blk_put (cs := #[.int .i64 ((rd_T132 l0_2 x28_2).f0), .int .i64 ((rd_T132 l0_2 x28_2).f1), .int .i64 ((rd_T132 l0_2 x28_2).f2), .int .i64 ((rd_T132 l0_2 x28_2).f3), .int .i64 0, .int .i64 0, .bool false]) ?_ 4 _ rfl; (with_reducible repeat (first | refine blk_drewN ?_ _ | refine blk_drew ?_ | refine blk_alloc ?_ _)); refine blk_put (cs := #[.int .i64 ((rd_T132 l0_2 x28_2).f0), .int .i64 ((rd_T132 l0_2 x28_2).f1), .int .i64 ((rd_T132 l0_2 x28_2).f2), .int .i64 0, .int .i64 0, .int .i64 0, .bool false]) ?_ 3 _ rfl; (with_reducible repeat (first | refine blk_drewN ?_ _ | refine blk_drew ?_ | refine blk_alloc ?_ _)); refine blk_put (cs := #[.int .i64 ((rd_T132 l0_2 x28_2).f0), .int .i64 ((rd_T132 l0_2 x28_2).f1), .int .i64 0, .int .i64 0, .int .i64 0, .int .i64 0, .bool false]) ?_ 2 _ rfl; (with_reducible repeat (first | refine blk_drewN ?_ _ | refine blk_drew ?_ | refine blk_alloc ?_ _)); refine blk_put (cs := #[.int .i64 ((rd_T132 l0_2 x28_2).f0), .int .i64 0, .int .i64 0, .int .i64 0, .int .i64 0, .int .i64 0, .bool false]) ?_ 1 _ rfl; (with_reducible repeat (first | refine blk_drewN ?_ _ | refine blk_drew ?_ | refine blk_alloc ?_ _)); refine blk_put (cs := #[.int .i64 0, .int .i64 0, .int .i64 0, .int .i64 0, .int .i64 0, .int .i64 0, .bool false]) ?_ 0 _ rfl; (with_reducible repeat (first | refine blk_drewN ?_ _ | refine blk_drew ?_ | refine blk_alloc ?_ _)); exact BK244.out⟩, ⟨zs2 HB GE239 GE244⟩⟩
      subst c27
      have H1 : ((impl_within.f ((rd_T132 l0_2 x28_2).f1) 0 15).bind fun t246 => (if t246 = true then (if 0 ≤ ((rd_T132 l0_2 x28_2).f2) then (if ((rd_T132 l0_2 x28_2).f2) ≤ ((rd_T132 l0_2 x28_2).f3) then (if (((rd_T132 l0_2 x28_2).f3) ≤ 6) then ((impl_window.f ((rd_T132 l0_2 x28_2).f4) ((rd_T132 l0_2 x28_2).f5)).bind fun t247 => (impl_FlyPathOk.j2 k2 x28_2 l0_2 (l0_2.length : Int) x28_2 (!t247) a0_0 a0_1 l0_2 a0_3 a0_4 ((rd_T132 l0_2 x28_2).f0) ((rd_T132 l0_2 x28_2).f1) ((rd_T132 l0_2 x28_2).f2) ((rd_T132 l0_2 x28_2).f3) ((rd_T132 l0_2 x28_2).f4) ((rd_T132 l0_2 x28_2).f5) ((rd_T132 l0_2 x28_2).f6))) else (impl_FlyPathOk.j2 k2 x28_2 l0_2 (l0_2.length : Int) x28_2 true a0_0 a0_1 l0_2 a0_3 a0_4 ((rd_T132 l0_2 x28_2).f0) ((rd_T132 l0_2 x28_2).f1) ((rd_T132 l0_2 x28_2).f2) ((rd_T132 l0_2 x28_2).f3) ((rd_T132 l0_2 x28_2).f4) ((rd_T132 l0_2 x28_2).f5) ((rd_T132 l0_2 x28_2).f6))) else (impl_FlyPathOk.j2 k2 x28_2 l0_2 (l0_2.length : Int) x28_2 true a0_0 a0_1 l0_2 a0_3 a0_4 ((rd_T132 l0_2 x28_2).f0) ((rd_T132 l0_2 x28_2).f1) ((rd_T132 l0_2 x28_2).f2) ((rd_T132 l0_2 x28_2).f3) ((rd_T132 l0_2 x28_2).f4) ((rd_T132 l0_2 x28_2).f5) ((rd_T132 l0_2 x28_2).f6))) else (impl_FlyPathOk.j2 k2 x28_2 l0_2 (l0_2.length : Int) x28_2 true a0_0 a0_1 l0_2 a0_3 a0_4 ((rd_T132 l0_2 x28_2).f0) ((rd_T132 l0_2 x28_2).f1) ((rd_T132 l0_2 x28_2).f2) ((rd_T132 l0_2 x28_2).f3) ((rd_T132 l0_2 x28_2).f4) ((rd_T132 l0_2 x28_2).f5) ((rd_T132 l0_2 x28_2).f6))) else (impl_FlyPathOk.j2 k2 x28_2 l0_2 (l0_2.length : Int) x28_2 true a0_0 a0_1 l0_2 a0_3 a0_4 ((rd_T132 l0_2 x28_2).f0) ((rd_T132 l0_2 x28_2).f1) ((rd_T132 l0_2 x28_2).f2) ((rd_T132 l0_2 x28_2).f3) ((rd_T132 l0_2 x28_2).f4) ((rd_T132 l0_2 x28_2).f5) ((rd_T132 l0_2 x28_2).f6)))) = some r := by rw [if_pos rfl] at H; exact H
      clear H
      have H := H1
      clear H1
      replace H := Option.bind_eq_some_iff.mp H
      obtain ⟨t246, A280, H⟩ := H
      replace H : (if t246 = true then (if 0 ≤ ((rd_T132 l0_2 x28_2).f2) then (if ((rd_T132 l0_2 x28_2).f2) ≤ ((rd_T132 l0_2 x28_2).f3) then (if (((rd_T132 l0_2 x28_2).f3) ≤ 6) then ((impl_window.f ((rd_T132 l0_2 x28_2).f4) ((rd_T132 l0_2 x28_2).f5)).bind fun t247 => (impl_FlyPathOk.j2 k2 x28_2 l0_2 (l0_2.length : Int) x28_2 (!t247) a0_0 a0_1 l0_2 a0_3 a0_4 ((rd_T132 l0_2 x28_2).f0) ((rd_T132 l0_2 x28_2).f1) ((rd_T132 l0_2 x28_2).f2) ((rd_T132 l0_2 x28_2).f3) ((rd_T132 l0_2 x28_2).f4) ((rd_T132 l0_2 x28_2).f5) ((rd_T132 l0_2 x28_2).f6))) else (impl_FlyPathOk.j2 k2 x28_2 l0_2 (l0_2.length : Int) x28_2 true a0_0 a0_1 l0_2 a0_3 a0_4 ((rd_T132 l0_2 x28_2).f0) ((rd_T132 l0_2 x28_2).f1) ((rd_T132 l0_2 x28_2).f2) ((rd_T132 l0_2 x28_2).f3) ((rd_T132 l0_2 x28_2).f4) ((rd_T132 l0_2 x28_2).f5) ((rd_T132 l0_2 x28_2).f6))) else (impl_FlyPathOk.j2 k2 x28_2 l0_2 (l0_2.length : Int) x28_2 true a0_0 a0_1 l0_2 a0_3 a0_4 ((rd_T132 l0_2 x28_2).f0) ((rd_T132 l0_2 x28_2).f1) ((rd_T132 l0_2 x28_2).f2) ((rd_T132 l0_2 x28_2).f3) ((rd_T132 l0_2 x28_2).f4) ((rd_T132 l0_2 x28_2).f5) ((rd_T132 l0_2 x28_2).f6))) else (impl_FlyPathOk.j2 k2 x28_2 l0_2 (l0_2.length : Int) x28_2 true a0_0 a0_1 l0_2 a0_3 a0_4 ((rd_T132 l0_2 x28_2).f0) ((rd_T132 l0_2 x28_2).f1) ((rd_T132 l0_2 x28_2).f2) ((rd_T132 l0_2 x28_2).f3) ((rd_T132 l0_2 x28_2).f4) ((rd_T132 l0_2 x28_2).f5) ((rd_T132 l0_2 x28_2).f6))) else (impl_FlyPathOk.j2 k2 x28_2 l0_2 (l0_2.length : Int) x28_2 true a0_0 a0_1 l0_2 a0_3 a0_4 ((rd_T132 l0_2 x28_2).f0) ((rd_T132 l0_2 x28_2).f1) ((rd_T132 l0_2 x28_2).f2) ((rd_T132 l0_2 x28_2).f3) ((rd_T132 l0_2 x28_2).f4) ((rd_T132 l0_2 x28_2).f5) ((rd_T132 l0_2 x28_2).f6))) = some r := H
      have A28 := zA A280
      clear A280
      by_cases c29 : t246 = true
      rotate_left
      ·replace c29 := Bool.eq_false_iff.mpr c29
       subst c29
       have H1 : (impl_FlyPathOk.j2 k2 x28_2 l0_2 (l0_2.length : Int) x28_2 true a0_0 a0_1 l0_2 a0_3 a0_4 ((rd_T132 l0_2 x28_2).f0) ((rd_T132 l0_2 x28_2).f1) ((rd_T132 l0_2 x28_2).f2) ((rd_T132 l0_2 x28_2).f3) ((rd_T132 l0_2 x28_2).f4) ((rd_T132 l0_2 x28_2).f5) ((rd_T132 l0_2 x28_2).f6)) = some r := by rw [if_neg (show ¬ (false = true) by decide)] at H; exact H
       clear H
       have H := H1
       clear H1
       have H' := zA H
       clear H
       have hnb42 := NB244_239.out
       have hnc42 := NB239_244.out
       obtain ⟨hcz43_0, hcz43_1, hcz43_2, hcz43_3, hcz43_4, hcz43_5, hcz43_6⟩ := zd7 BK244
       obtain ⟨hfz43_0, hfz43_1, hfz43_2, hfz43_3, hfz43_4, hfz43_5, hfz43_6⟩ := zn7 BK244
       go_wp2_with (first | ((with_reducible refine gate_callee (f := 93) rfl ?_); refine goesL_ (some 35) rfl rfl Try.func93 (by kernel_rfl) rfl #[.int .i64 ((rd_T132 l0_2 x28_2).f0), .int .i64 0, .int .i64 15] rfl zl ?_; (with_reducible refine (impl_within.calls ((rd_T132 l0_2 x28_2).f0) 0 15 true _ A26.out).mono ?_); rintro e w' ⟨rfl, ⟨nd, rfl⟩⟩; refine ⟨_, rfl, ?_⟩) | (go_at_call 93; (with_reducible refine (impl_within.calls ((rd_T132 l0_2 x28_2).f1) 0 15 false _ A28.out).mono ?_); rintro e w' ⟨rfl, ⟨nd, rfl⟩⟩))
       go_meet
       case rel => exact ⟨_, (true), zi, H', ⟨by have := HJ1.out; have := HK2.out; first | omega | exact Nat.le_refl _⟩, ⟨by (with_reducible repeat (first | refine blk_drewN ?_ _ | refine blk_drew ?_ | refine blk_alloc ?_ _)); refine blk_far ?_ NB239_244.out _; (with_reducible repeat (first | refine blk_drewN ?_ _ | refine blk_drew ?_ | refine blk_alloc ?_ _)); refine blk_far ?_ NB239_244.out _; (with_reducible repeat (first | refine blk_drewN ?_ _ | refine blk_drew ?_ | refine blk_alloc ?_ _)); refine blk_far ?_ NB239_244.out _; (with_reducible repeat (first | refine blk_drewN ?_ _ | refine blk_drew ?_ | refine blk_alloc ?_ _)); refine blk_far ?_ NB239_244.out _; (with_reducible repeat (first | refine blk_drewN ?_ _ | refine blk_drew ?_ | refine blk_alloc ?_ _)); refine blk_far ?_ NB239_244.out _; (with_reducible repeat (first | refine blk_drewN ?_ _ | refine blk_drew ?_ | refine blk_alloc ?_ _)); refine blk_far ?_ NB239_244.out _; (with_reducible repeat (first | refine blk_drewN ?_ _ | refine blk_drew ?_ | refine blk_alloc ?_ _)); refine blk_far ?_ NB239_244.out _; (with_reducible repeat (first | refine blk_drewN ?_ _ | refine blk_drew ?_ | refine blk_alloc ?_ _)); exact BK239.out⟩, ⟨by (with_reducible repeat (first | refine blk_drewN ?_ _ | refine blk_drew ?_ | refine blk_alloc ?_ _)); refine blk_put (cs := #[.int .i64 ((rd_T132 l0_2 x28_2).f0), .int .i64 ((rd_T132 l0_2 x28_2).f1), .int .i64 ((rd_T132 l0_2 x28_2).f2), .int .i64 ((rd_T132 l0_2 x28_2).f3), .int .i64 ((rd_T132 l0_2 x28_2).f4), .int .i64 ((rd_T132 l0_2 x28_2).f5), .bool false]) ?_ 6 _ rfl; (with_reducible repeat (first | refine blk_drewN ?_ _ | refine blk_drew ?_ | refine blk_alloc ?_ _)); refine blk_put (cs := #[.int .i64 ((rd_T132 l0_2 x28_2).f0), .int .i64 ((rd_T132 l0_2 x28_2).f1), .int .i64 ((rd_T132 l0_2 x28_2).f2), .int .i64 ((rd_T132 l0_2 x28_2).f3), .int .i64 ((rd_T132 l0_2 x28_2).f4), .int .i64 0, .bool false]) ?_ 5 _ rfl; (with_reducible repeat (first | refine blk_drewN ?_ _ | refine blk_drew ?_ | refine blk_alloc ?_ _)); refine blk_put (cs := #[.int .i64 ((rd_T132 l0_2 x28_2).f0), .int .i64 ((rd_T132 l0_2 x28_2).f1), .int .i64 ((rd_T132 l0_2 x28_2).f2), .int .i64 ((rd_T132 l0_2 x28_2).f3), .int .i64 0, .int .i64 0, .bool false]) ?_ 4 _ rfl; (with_reducible repeat (first | refine blk_drewN ?_ _ | refine blk_drew ?_ | refine blk_alloc ?_ _)); refine blk_put (cs := #[.int .i64 ((rd_T132 l0_2 x28_2).f0), .int .i64 ((rd_T132 l0_2 x28_2).f1), .int .i64 ((rd_T132 l0_2 x28_2).f2), .int .i64 0, .int .i64 0, .int .i64 0, .bool false]) ?_ 3 _ rfl; (with_reducible repeat (first | refine blk_drewN ?_ _ | refine blk_drew ?_ | refine blk_alloc ?_ _)); refine blk_put (cs := #[.int .i64 ((rd_T132 l0_2 x28_2).f0), .int .i64 ((rd_T132 l0_2 x28_2).f1), .int .i64 0, .int .i64 0, .int .i64 0, .int .i64 0, .bool false]) ?_ 2 _ rfl; (with_reducible repeat (first | refine blk_drewN ?_ _ | refine blk_drew ?_ | refine blk_alloc ?_ _)); refine blk_put (cs := #[.int .i64 ((rd_T132 l0_2 x28_2).f0), .int .i64 0, .int .i64 0, .int .i64 0, .int .i64 0, .int .i64 0, .bool false]) ?_ 1 _ rfl; (with_reducible repeat (first | refine blk_drewN ?_ _ | refine blk_drew ?_ | refine blk_alloc ?_ _)); refine blk_put (cs := #[.int .i64 0, .int .i64 0, .int .i64 0, .int .i64 0, .int .i64 0, .int .i64 0, .bool false]) ?_ 0 _ rfl; (with_reducible repeat (first | refine blk_drewN ?_ _ | refine blk_drew ?_ | refine blk_alloc ?_ _)); exact BK244.out⟩, ⟨zs2 HB GE239 GE244⟩⟩
      subst c29
      have H1 : (if 0 ≤ ((rd_T132 l0_2 x28_2).f2) then (if ((rd_T132 l0_2 x28_2).f2) ≤ ((rd_T132 l0_2 x28_2).f3) then (if (((rd_T132 l0_2 x28_2).f3) ≤ 6) then ((impl_window.f ((rd_T132 l0_2 x28_2).f4) ((rd_T132 l0_2 x28_2).f5)).bind fun t247 => (impl_FlyPathOk.j2 k2 x28_2 l0_2 (l0_2.length : Int) x28_2 (!t247) a0_0 a0_1 l0_2 a0_3 a0_4 ((rd_T132 l0_2 x28_2).f0) ((rd_T132 l0_2 x28_2).f1) ((rd_T132 l0_2 x28_2).f2) ((rd_T132 l0_2 x28_2).f3) ((rd_T132 l0_2 x28_2).f4) ((rd_T132 l0_2 x28_2).f5) ((rd_T132 l0_2 x28_2).f6))) else (impl_FlyPathOk.j2 k2 x28_2 l0_2 (l0_2.length : Int) x28_2 true a0_0 a0_1 l0_2 a0_3 a0_4 ((rd_T132 l0_2 x28_2).f0) ((rd_T132 l0_2 x28_2).f1) ((rd_T132 l0_2 x28_2).f2) ((rd_T132 l0_2 x28_2).f3) ((rd_T132 l0_2 x28_2).f4) ((rd_T132 l0_2 x28_2).f5) ((rd_T132 l0_2 x28_2).f6))) else (impl_FlyPathOk.j2 k2 x28_2 l0_2 (l0_2.length : Int) x28_2 true a0_0 a0_1 l0_2 a0_3 a0_4 ((rd_T132 l0_2 x28_2).f0) ((rd_T132 l0_2 x28_2).f1) ((rd_T132 l0_2 x28_2).f2) ((rd_T132 l0_2 x28_2).f3) ((rd_T132 l0_2 x28_2).f4) ((rd_T132 l0_2 x28_2).f5) ((rd_T132 l0_2 x28_2).f6))) else (impl_FlyPathOk.j2 k2 x28_2 l0_2 (l0_2.length : Int) x28_2 true a0_0 a0_1 l0_2 a0_3 a0_4 ((rd_T132 l0_2 x28_2).f0) ((rd_T132 l0_2 x28_2).f1) ((rd_T132 l0_2 x28_2).f2) ((rd_T132 l0_2 x28_2).f3) ((rd_T132 l0_2 x28_2).f4) ((rd_T132 l0_2 x28_2).f5) ((rd_T132 l0_2 x28_2).f6))) = some r := by rw [if_pos rfl] at H; exact H
      clear H
      have H := H1
      clear H1
      by_cases c30 : 0 ≤ ((rd_T132 l0_2 x28_2).f2)
      rotate_left
      ·rw [if_neg c30] at H
       have c30b0 : decide (0 ≤ ((rd_T132 l0_2 x28_2).f2)) = false := decide_eq_false c30
       clear c30
       (first | rw [c30b0] | (simp only [i64_w, i32_w]; rw [c30b0]) | skip)
       have H' := zA H
       clear H
       have hnb40 := NB244_239.out
       have hnc40 := NB239_244.out
       obtain ⟨hcz41_0, hcz41_1, hcz41_2, hcz41_3, hcz41_4, hcz41_5, hcz41_6⟩ := zd7 BK244
       obtain ⟨hfz41_0, hfz41_1, hfz41_2, hfz41_3, hfz41_4, hfz41_5, hfz41_6⟩ := zn7 BK244
       go_wp2_with (first | ((with_reducible refine gate_callee (f := 93) rfl ?_); refine goesL_ (some 35) rfl rfl Try.func93 (by kernel_rfl) rfl #[.int .i64 ((rd_T132 l0_2 x28_2).f0), .int .i64 0, .int .i64 15] rfl zl ?_; (with_reducible refine (impl_within.calls ((rd_T132 l0_2 x28_2).f0) 0 15 true _ A26.out).mono ?_); rintro e w' ⟨rfl, ⟨nd, rfl⟩⟩; refine ⟨_, rfl, ?_⟩) | (go_at_call 93; (with_reducible refine (impl_within.calls ((rd_T132 l0_2 x28_2).f1) 0 15 true _ A28.out).mono ?_); rintro e w' ⟨rfl, ⟨nd, rfl⟩⟩))
       go_meet
       case rel => exact ⟨_, (true), zi, H', ⟨by have := HJ1.out; have := HK2.out; first | omega | exact Nat.le_refl _⟩, ⟨by (with_reducible repeat (first | refine blk_drewN ?_ _ | refine blk_drew ?_ | refine blk_alloc ?_ _)); refine blk_far ?_ NB239_244.out _; (with_reducible repeat (first | refine blk_drewN ?_ _ | refine blk_drew ?_ | refine blk_alloc ?_ _)); refine blk_far ?_ NB239_244.out _; (with_reducible repeat (first | refine blk_drewN ?_ _ | refine blk_drew ?_ | refine blk_alloc ?_ _)); refine blk_far ?_ NB239_244.out _; (with_reducible repeat (first | refine blk_drewN ?_ _ | refine blk_drew ?_ | refine blk_alloc ?_ _)); refine blk_far ?_ NB239_244.out _; (with_reducible repeat (first | refine blk_drewN ?_ _ | refine blk_drew ?_ | refine blk_alloc ?_ _)); refine blk_far ?_ NB239_244.out _; (with_reducible repeat (first | refine blk_drewN ?_ _ | refine blk_drew ?_ | refine blk_alloc ?_ _)); refine blk_far ?_ NB239_244.out _; (with_reducible repeat (first | refine blk_drewN ?_ _ | refine blk_drew ?_ | refine blk_alloc ?_ _)); refine blk_far ?_ NB239_244.out _; (with_reducible repeat (first | refine blk_drewN ?_ _ | refine blk_drew ?_ | refine blk_alloc ?_ _)); exact BK239.out⟩, ⟨by (with_reducible repeat (first | refine blk_drewN ?_ _ | refine blk_drew ?_ | refine blk_alloc ?_ _)); refine blk_put (cs := #[.int .i64 ((rd_T132 l0_2 x28_2).f0), .int .i64 ((rd_T132 l0_2 x28_2).f1), .int .i64 ((rd_T132 l0_2 x28_2).f2), .int .i64 ((rd_T132 l0_2 x28_2).f3), .int .i64 ((rd_T132 l0_2 x28_2).f4), .int .i64 ((rd_T132 l0_2 x28_2).f5), .bool false]) ?_ 6 _ rfl; (with_reducible repeat (first | refine blk_drewN ?_ _ | refine blk_drew ?_ | refine blk_alloc ?_ _)); refine blk_put (cs := #[.int .i64 ((rd_T132 l0_2 x28_2).f0), .int .i64 ((rd_T132 l0_2 x28_2).f1), .int .i64 ((rd_T132 l0_2 x28_2).f2), .int .i64 ((rd_T132 l0_2 x28_2).f3), .int .i64 ((rd_T132 l0_2 x28_2).f4), .int .i64 0, .bool false]) ?_ 5 _ rfl; (with_reducible repeat (first | refine blk_drewN ?_ _ | refine blk_drew ?_ | refine blk_alloc ?_ _)); refine blk_put (cs := #[.int .i64 ((rd_T132 l0_2 x28_2).f0), .int .i64 ((rd_T132 l0_2 x28_2).f1), .int .i64 ((rd_T132 l0_2 x28_2).f2), .int .i64 ((rd_T132 l0_2 x28_2).f3), .int .i64 0, .int .i64 0, .bool false]) ?_ 4 _ rfl; (with_reducible repeat (first | refine blk_drewN ?_ _ | refine blk_drew ?_ | refine blk_alloc ?_ _)); refine blk_put (cs := #[.int .i64 ((rd_T132 l0_2 x28_2).f0), .int .i64 ((rd_T132 l0_2 x28_2).f1), .int .i64 ((rd_T132 l0_2 x28_2).f2), .int .i64 0, .int .i64 0, .int .i64 0, .bool false]) ?_ 3 _ rfl; (with_reducible repeat (first | refine blk_drewN ?_ _ | refine blk_drew ?_ | refine blk_alloc ?_ _)); refine blk_put (cs := #[.int .i64 ((rd_T132 l0_2 x28_2).f0), .int .i64 ((rd_T132 l0_2 x28_2).f1), .int .i64 0, .int .i64 0, .int .i64 0, .int .i64 0, .bool false]) ?_ 2 _ rfl; (with_reducible repeat (first | refine blk_drewN ?_ _ | refine blk_drew ?_ | refine blk_alloc ?_ _)); refine blk_put (cs := #[.int .i64 ((rd_T132 l0_2 x28_2).f0), .int .i64 0, .int .i64 0, .int .i64 0, .int .i64 0, .int .i64 0, .bool false]) ?_ 1 _ rfl; (with_reducible repeat (first | refine blk_drewN ?_ _ | refine blk_drew ?_ | refine blk_alloc ?_ _)); refine blk_put (cs := #[.int .i64 0, .int .i64 0, .int .i64 0, .int .i64 0, .int .i64 0, .int .i64 0, .bool false]) ?_ 0 _ rfl; (with_reducible repeat (first | refine blk_drewN ?_ _ | refine blk_drew ?_ | refine blk_alloc ?_ _)); exact BK244.out⟩, ⟨zs2 HB GE239 GE244⟩⟩
      rw [if_pos c30] at H
      have c30b0 : decide (0 ≤ ((rd_T132 l0_2 x28_2).f2)) = true := decide_eq_true c30
      clear c30
      (first | rw [c30b0] | (simp only [i64_w, i32_w]; rw [c30b0]) | skip)
      by_cases c31 : ((rd_T132 l0_2 x28_2).f2) ≤ ((rd_T132 l0_2 x28_2).f3)
      rotate_left
      ·rw [if_neg c31] at H
       have c31b0 : decide (((rd_T132 l0_2 x28_2).f2) ≤ ((rd_T132 l0_2 x28_2).f3)) = false := decide_eq_false c31
       clear c31
       have H' := zA H
       clear H
       have hnb38 := NB244_239.out
       have hnc38 := NB239_244.out
       obtain ⟨hcz39_0, hcz39_1, hcz39_2, hcz39_3, hcz39_4, hcz39_5, hcz39_6⟩ := zd7 BK244
       obtain ⟨hfz39_0, hfz39_1, hfz39_2, hfz39_3, hfz39_4, hfz39_5, hfz39_6⟩ := zn7 BK244
       go_wp2_with (first | ((with_reducible refine gate_callee (f := 93) rfl ?_); refine goesL_ (some 35) rfl rfl Try.func93 (by kernel_rfl) rfl #[.int .i64 ((rd_T132 l0_2 x28_2).f0), .int .i64 0, .int .i64 15] rfl zl ?_; (with_reducible refine (impl_within.calls ((rd_T132 l0_2 x28_2).f0) 0 15 true _ A26.out).mono ?_); rintro e w' ⟨rfl, ⟨nd, rfl⟩⟩; refine ⟨_, rfl, ?_⟩) | (go_at_call 93; (with_reducible refine (impl_within.calls ((rd_T132 l0_2 x28_2).f1) 0 15 true _ A28.out).mono ?_); rintro e w' ⟨rfl, ⟨nd, rfl⟩⟩))
       go_meet
       case rel => exact ⟨_, (true), zi, H', ⟨by have := HJ1.out; have := HK2.out; first | omega | exact Nat.le_refl _⟩, ⟨by (with_reducible repeat (first | refine blk_drewN ?_ _ | refine blk_drew ?_ | refine blk_alloc ?_ _)); refine blk_far ?_ NB239_244.out _; (with_reducible repeat (first | refine blk_drewN ?_ _ | refine blk_drew ?_ | refine blk_alloc ?_ _)); refine blk_far ?_ NB239_244.out _; (with_reducible repeat (first | refine blk_drewN ?_ _ | refine blk_drew ?_ | refine blk_alloc ?_ _)); refine blk_far ?_ NB239_244.out _; (with_reducible repeat (first | refine blk_drewN ?_ _ | refine blk_drew ?_ | refine blk_alloc ?_ _)); refine blk_far ?_ NB239_244.out _; (with_reducible repeat (first | refine blk_drewN ?_ _ | refine blk_drew ?_ | refine blk_alloc ?_ _)); refine blk_far ?_ NB239_244.out _; (with_reducible repeat (first | refine blk_drewN ?_ _ | refine blk_drew ?_ | refine blk_alloc ?_ _)); refine blk_far ?_ NB239_244.out _; (with_reducible repeat (first | refine blk_drewN ?_ _ | refine blk_drew ?_ | refine blk_alloc ?_ _)); refine blk_far ?_ NB239_244.out _; (with_reducible repeat (first | refine blk_drewN ?_ _ | refine blk_drew ?_ | refine blk_alloc ?_ _)); exact BK239.out⟩, ⟨by (with_reducible repeat (first | refine blk_drewN ?_ _ | refine blk_drew ?_ | refine blk_alloc ?_ _)); refine blk_put (cs := #[.int .i64 ((rd_T132 l0_2 x28_2).f0), .int .i64 ((rd_T132 l0_2 x28_2).f1), .int .i64 ((rd_T132 l0_2 x28_2).f2), .int .i64 ((rd_T132 l0_2 x28_2).f3), .int .i64 ((rd_T132 l0_2 x28_2).f4), .int .i64 ((rd_T132 l0_2 x28_2).f5), .bool false]) ?_ 6 _ rfl; (with_reducible repeat (first | refine blk_drewN ?_ _ | refine blk_drew ?_ | refine blk_alloc ?_ _)); refine blk_put (cs := #[.int .i64 ((rd_T132 l0_2 x28_2).f0), .int .i64 ((rd_T132 l0_2 x28_2).f1), .int .i64 ((rd_T132 l0_2 x28_2).f2), .int .i64 ((rd_T132 l0_2 x28_2).f3), .int .i64 ((rd_T132 l0_2 x28_2).f4), .int .i64 0, .bool false]) ?_ 5 _ rfl; (with_reducible repeat (first | refine blk_drewN ?_ _ | refine blk_drew ?_ | refine blk_alloc ?_ _)); refine blk_put (cs := #[.int .i64 ((rd_T132 l0_2 x28_2).f0), .int .i64 ((rd_T132 l0_2 x28_2).f1), .int .i64 ((rd_T132 l0_2 x28_2).f2), .int .i64 ((rd_T132 l0_2 x28_2).f3), .int .i64 0, .int .i64 0, .bool false]) ?_ 4 _ rfl; (with_reducible repeat (first | refine blk_drewN ?_ _ | refine blk_drew ?_ | refine blk_alloc ?_ _)); refine blk_put (cs := #[.int .i64 ((rd_T132 l0_2 x28_2).f0), .int .i64 ((rd_T132 l0_2 x28_2).f1), .int .i64 ((rd_T132 l0_2 x28_2).f2), .int .i64 0, .int .i64 0, .int .i64 0, .bool false]) ?_ 3 _ rfl; (with_reducible repeat (first | refine blk_drewN ?_ _ | refine blk_drew ?_ | refine blk_alloc ?_ _)); refine blk_put (cs := #[.int .i64 ((rd_T132 l0_2 x28_2).f0), .int .i64 ((rd_T132 l0_2 x28_2).f1), .int .i64 0, .int .i64 0, .int .i64 0, .int .i64 0, .bool false]) ?_ 2 _ rfl; (with_reducible repeat (first | refine blk_drewN ?_ _ | refine blk_drew ?_ | refine blk_alloc ?_ _)); refine blk_put (cs := #[.int .i64 ((rd_T132 l0_2 x28_2).f0), .int .i64 0, .int .i64 0, .int .i64 0, .int .i64 0, .int .i64 0, .bool false]) ?_ 1 _ rfl; (with_reducible repeat (first | refine blk_drewN ?_ _ | refine blk_drew ?_ | refine blk_alloc ?_ _)); refine blk_put (cs := #[.int .i64 0, .int .i64 0, .int .i64 0, .int .i64 0, .int .i64 0, .int .i64 0, .bool false]) ?_ 0 _ rfl; (with_reducible repeat (first | refine blk_drewN ?_ _ | refine blk_drew ?_ | refine blk_alloc ?_ _)); exact BK244.out⟩, ⟨zs2 HB GE239 GE244⟩⟩
      rw [if_pos c31] at H
      have c31b0 : decide (((rd_T132 l0_2 x28_2).f2) ≤ ((rd_T132 l0_2 x28_2).f3)) = true := decide_eq_true c31
      clear c31
      by_cases c32 : (((rd_T132 l0_2 x28_2).f3) ≤ 6)
      rotate_left
      ·rw [if_neg c32] at H
       have c32b0 : decide (((rd_T132 l0_2 x28_2).f3) ≤ 6) = false := decide_eq_false c32
       clear c32
       have H' := zA H
       clear H
       have hnb36 := NB244_239.out
       have hnc36 := NB239_244.out
       obtain ⟨hcz37_0, hcz37_1, hcz37_2, hcz37_3, hcz37_4, hcz37_5, hcz37_6⟩ := zd7 BK244
       obtain ⟨hfz37_0, hfz37_1, hfz37_2, hfz37_3, hfz37_4, hfz37_5, hfz37_6⟩ := zn7 BK244
       go_wp2_with (first | ((with_reducible refine gate_callee (f := 93) rfl ?_); refine goesL_ (some 35) rfl rfl Try.func93 (by kernel_rfl) rfl #[.int .i64 ((rd_T132 l0_2 x28_2).f0), .int .i64 0, .int .i64 15] rfl zl ?_; (with_reducible refine (impl_within.calls ((rd_T132 l0_2 x28_2).f0) 0 15 true _ A26.out).mono ?_); rintro e w' ⟨rfl, ⟨nd, rfl⟩⟩; refine ⟨_, rfl, ?_⟩) | (go_at_call 93; (with_reducible refine (impl_within.calls ((rd_T132 l0_2 x28_2).f1) 0 15 true _ A28.out).mono ?_); rintro e w' ⟨rfl, ⟨nd, rfl⟩⟩))
       go_meet
       case rel => exact ⟨_, (true), zi, H', ⟨by have := HJ1.out; have := HK2.out; first | omega | exact Nat.le_refl _⟩, ⟨by (with_reducible repeat (first | refine blk_drewN ?_ _ | refine blk_drew ?_ | refine blk_alloc ?_ _)); refine blk_far ?_ NB239_244.out _; (with_reducible repeat (first | refine blk_drewN ?_ _ | refine blk_drew ?_ | refine blk_alloc ?_ _)); refine blk_far ?_ NB239_244.out _; (with_reducible repeat (first | refine blk_drewN ?_ _ | refine blk_drew ?_ | refine blk_alloc ?_ _)); refine blk_far ?_ NB239_244.out _; (with_reducible repeat (first | refine blk_drewN ?_ _ | refine blk_drew ?_ | refine blk_alloc ?_ _)); refine blk_far ?_ NB239_244.out _; (with_reducible repeat (first | refine blk_drewN ?_ _ | refine blk_drew ?_ | refine blk_alloc ?_ _)); refine blk_far ?_ NB239_244.out _; (with_reducible repeat (first | refine blk_drewN ?_ _ | refine blk_drew ?_ | refine blk_alloc ?_ _)); refine blk_far ?_ NB239_244.out _; (with_reducible repeat (first | refine blk_drewN ?_ _ | refine blk_drew ?_ | refine blk_alloc ?_ _)); refine blk_far ?_ NB239_244.out _; (with_reducible repeat (first | refine blk_drewN ?_ _ | refine blk_drew ?_ | refine blk_alloc ?_ _)); exact BK239.out⟩, ⟨by (with_reducible repeat (first | refine blk_drewN ?_ _ | refine blk_drew ?_ | refine blk_alloc ?_ _)); refine blk_put (cs := #[.int .i64 ((rd_T132 l0_2 x28_2).f0), .int .i64 ((rd_T132 l0_2 x28_2).f1), .int .i64 ((rd_T132 l0_2 x28_2).f2), .int .i64 ((rd_T132 l0_2 x28_2).f3), .int .i64 ((rd_T132 l0_2 x28_2).f4), .int .i64 ((rd_T132 l0_2 x28_2).f5), .bool false]) ?_ 6 _ rfl; (with_reducible repeat (first | refine blk_drewN ?_ _ | refine blk_drew ?_ | refine blk_alloc ?_ _)); refine blk_put (cs := #[.int .i64 ((rd_T132 l0_2 x28_2).f0), .int .i64 ((rd_T132 l0_2 x28_2).f1), .int .i64 ((rd_T132 l0_2 x28_2).f2), .int .i64 ((rd_T132 l0_2 x28_2).f3), .int .i64 ((rd_T132 l0_2 x28_2).f4), .int .i64 0, .bool false]) ?_ 5 _ rfl; (with_reducible repeat (first | refine blk_drewN ?_ _ | refine blk_drew ?_ | refine blk_alloc ?_ _)); refine blk_put (cs := #[.int .i64 ((rd_T132 l0_2 x28_2).f0), .int .i64 ((rd_T132 l0_2 x28_2).f1), .int .i64 ((rd_T132 l0_2 x28_2).f2), .int .i64 ((rd_T132 l0_2 x28_2).f3), .int .i64 0, .int .i64 0, .bool false]) ?_ 4 _ rfl; (with_reducible repeat (first | refine blk_drewN ?_ _ | refine blk_drew ?_ | refine blk_alloc ?_ _)); refine blk_put (cs := #[.int .i64 ((rd_T132 l0_2 x28_2).f0), .int .i64 ((rd_T132 l0_2 x28_2).f1), .int .i64 ((rd_T132 l0_2 x28_2).f2), .int .i64 0, .int .i64 0, .int .i64 0, .bool false]) ?_ 3 _ rfl; (with_reducible repeat (first | refine blk_drewN ?_ _ | refine blk_drew ?_ | refine blk_alloc ?_ _)); refine blk_put (cs := #[.int .i64 ((rd_T132 l0_2 x28_2).f0), .int .i64 ((rd_T132 l0_2 x28_2).f1), .int .i64 0, .int .i64 0, .int .i64 0, .int .i64 0, .bool false]) ?_ 2 _ rfl; (with_reducible repeat (first | refine blk_drewN ?_ _ | refine blk_drew ?_ | refine blk_alloc ?_ _)); refine blk_put (cs := #[.int .i64 ((rd_T132 l0_2 x28_2).f0), .int .i64 0, .int .i64 0, .int .i64 0, .int .i64 0, .int .i64 0, .bool false]) ?_ 1 _ rfl; (with_reducible repeat (first | refine blk_drewN ?_ _ | refine blk_drew ?_ | refine blk_alloc ?_ _)); refine blk_put (cs := #[.int .i64 0, .int .i64 0, .int .i64 0, .int .i64 0, .int .i64 0, .int .i64 0, .bool false]) ?_ 0 _ rfl; (with_reducible repeat (first | refine blk_drewN ?_ _ | refine blk_drew ?_ | refine blk_alloc ?_ _)); exact BK244.out⟩, ⟨zs2 HB GE239 GE244⟩⟩
      rw [if_pos c32] at H
      have c32b0 : decide (((rd_T132 l0_2 x28_2).f3) ≤ 6) = true := decide_eq_true c32
      clear c32
      replace H := Option.bind_eq_some_iff.mp H
      obtain ⟨t247, A330, H⟩ := H
      replace H : (impl_FlyPathOk.j2 k2 x28_2 l0_2 (l0_2.length : Int) x28_2 (!t247) a0_0 a0_1 l0_2 a0_3 a0_4 ((rd_T132 l0_2 x28_2).f0) ((rd_T132 l0_2 x28_2).f1) ((rd_T132 l0_2 x28_2).f2) ((rd_T132 l0_2 x28_2).f3) ((rd_T132 l0_2 x28_2).f4) ((rd_T132 l0_2 x28_2).f5) ((rd_T132 l0_2 x28_2).f6)) = some r := H
      have A33 := zA A330
      clear A330
      have H' := zA H
      clear H
      have hnb34 := NB244_239.out
      have hnc34 := NB239_244.out
      obtain ⟨hcz35_0, hcz35_1, hcz35_2, hcz35_3, hcz35_4, hcz35_5, hcz35_6⟩ := zd7 BK244
      obtain ⟨hfz35_0, hfz35_1, hfz35_2, hfz35_3, hfz35_4, hfz35_5, hfz35_6⟩ := zn7 BK244
      go_wp2_with (first | ((with_reducible refine gate_callee (f := 93) rfl ?_); refine goesL_ (some 35) rfl rfl Try.func93 (by kernel_rfl) rfl #[.int .i64 ((rd_T132 l0_2 x28_2).f0), .int .i64 0, .int .i64 15] rfl zl ?_; (with_reducible refine (impl_within.calls ((rd_T132 l0_2 x28_2).f0) 0 15 true _ A26.out).mono ?_); rintro e w' ⟨rfl, ⟨nd, rfl⟩⟩; refine ⟨_, rfl, ?_⟩) | (go_at_call 93; (with_reducible refine (impl_within.calls ((rd_T132 l0_2 x28_2).f1) 0 15 true _ A28.out).mono ?_); rintro e w' ⟨rfl, ⟨nd, rfl⟩⟩) | (go_at_call 143; (with_reducible refine (impl_window.calls ((rd_T132 l0_2 x28_2).f4) ((rd_T132 l0_2 x28_2).f5) t247 _ A33.out).mono ?_); rintro e w' ⟨rfl, ⟨nd, rfl⟩⟩))
      go_meet
      case rel => exact ⟨_, (!t247), zi, H', ⟨by have := HJ1.out; have := HK2.out; first | omega | exact Nat.le_refl _⟩, ⟨by (with_reducible repeat (first | refine blk_drewN ?_ _ | refine blk_drew ?_ | refine blk_alloc ?_ _)); refine blk_far ?_ NB239_244.out _; (with_reducible repeat (first | refine blk_drewN ?_ _ | refine blk_drew ?_ | refine blk_alloc ?_ _)); refine blk_far ?_ NB239_244.out _; (with_reducible repeat (first | refine blk_drewN ?_ _ | refine blk_drew ?_ | refine blk_alloc ?_ _)); refine blk_far ?_ NB239_244.out _; (with_reducible repeat (first | refine blk_drewN ?_ _ | refine blk_drew ?_ | refine blk_alloc ?_ _)); refine blk_far ?_ NB239_244.out _; (with_reducible repeat (first | refine blk_drewN ?_ _ | refine blk_drew ?_ | refine blk_alloc ?_ _)); refine blk_far ?_ NB239_244.out _; (with_reducible repeat (first | refine blk_drewN ?_ _ | refine blk_drew ?_ | refine blk_alloc ?_ _)); refine blk_far ?_ NB239_244.out _; (with_reducible repeat (first | refine blk_drewN ?_ _ | refine blk_drew ?_ | refine blk_alloc ?_ _)); refine blk_far ?_ NB239_244.out _; (with_reducible repeat (first | refine blk_drewN ?_ _ | refine blk_drew ?_ | refine blk_alloc ?_ _)); exact BK239.out⟩, ⟨by (with_reducible repeat (first | refine blk_drewN ?_ _ | refine blk_drew ?_ | refine blk_alloc ?_ _)); refine blk_put (cs := #[.int .i64 ((rd_T132 l0_2 x28_2).f0), .int .i64 ((rd_T132 l0_2 x28_2).f1), .int .i64 ((rd_T132 l0_2 x28_2).f2), .int .i64 ((rd_T132 l0_2 x28_2).f3), .int .i64 ((rd_T132 l0_2 x28_2).f4), .int .i64 ((rd_T132 l0_2 x28_2).f5), .bool false]) ?_ 6 _ rfl; (with_reducible repeat (first | refine blk_drewN ?_ _ | refine blk_drew ?_ | refine blk_alloc ?_ _)); refine blk_put (cs := #[.int .i64 ((rd_T132 l0_2 x28_2).f0), .int .i64 ((rd_T132 l0_2 x28_2).f1), .int .i64 ((rd_T132 l0_2 x28_2).f2), .int .i64 ((rd_T132 l0_2 x28_2).f3), .int .i64 ((rd_T132 l0_2 x28_2).f4), .int .i64 0, .bool false]) ?_ 5 _ rfl; (with_reducible repeat (first | refine blk_drewN ?_ _ | refine blk_drew ?_ | refine blk_alloc ?_ _)); refine blk_put (cs := #[.int .i64 ((rd_T132 l0_2 x28_2).f0), .int .i64 ((rd_T132 l0_2 x28_2).f1), .int .i64 ((rd_T132 l0_2 x28_2).f2), .int .i64 ((rd_T132 l0_2 x28_2).f3), .int .i64 0, .int .i64 0, .bool false]) ?_ 4 _ rfl; (with_reducible repeat (first | refine blk_drewN ?_ _ | refine blk_drew ?_ | refine blk_alloc ?_ _)); refine blk_put (cs := #[.int .i64 ((rd_T132 l0_2 x28_2).f0), .int .i64 ((rd_T132 l0_2 x28_2).f1), .int .i64 ((rd_T132 l0_2 x28_2).f2), .int .i64 0, .int .i64 0, .int .i64 0, .bool false]) ?_ 3 _ rfl; (with_reducible repeat (first | refine blk_drewN ?_ _ | refine blk_drew ?_ | refine blk_alloc ?_ _)); refine blk_put (cs := #[.int .i64 ((rd_T132 l0_2 x28_2).f0), .int .i64 ((rd_T132 l0_2 x28_2).f1), .int .i64 0, .int .i64 0, .int .i64 0, .int .i64 0, .bool false]) ?_ 2 _ rfl; (with_reducible repeat (first | refine blk_drewN ?_ _ | refine blk_drew ?_ | refine blk_alloc ?_ _)); refine blk_put (cs := #[.int .i64 ((rd_T132 l0_2 x28_2).f0), .int .i64 0, .int .i64 0, .int .i64 0, .int .i64 0, .int .i64 0, .bool false]) ?_ 1 _ rfl; (with_reducible repeat (first | refine blk_drewN ?_ _ | refine blk_drew ?_ | refine blk_alloc ?_ _)); refine blk_put (cs := #[.int .i64 0, .int .i64 0, .int .i64 0, .int .i64 0, .int .i64 0, .int .i64 0, .bool false]) ?_ 0 _ rfl; (with_reducible repeat (first | refine blk_drewN ?_ _ | refine blk_drew ?_ | refine blk_alloc ?_ _)); exact BK244.out⟩, ⟨zs2 HB GE239 GE244⟩⟩
     case rest =>
      clear HC22
      try clear c1
      try clear c2
      try clear p2
      try clear q2
      try clear hx2
      try clear c3
      try clear c4
      try clear c5
      try clear c7
      try clear c9
      try clear c14
      try clear c17
      try clear c19
      try clear c19b0
      try clear c20
      try clear c20b0
      try clear c21
      try clear c21b0
      try clear c24
      try clear p24
      try clear q24
      try clear hx24
      try clear c27
      try clear c29
      try clear c30
      try clear c30b0
      try clear c31
      try clear c31b0
      try clear c32
      try clear c32b0
      try clear c34
      try clear c36
      try clear c38
      try clear c40
      try clear c42
      try clear c44
      try clear hcz11_0
      try clear hcz11_1
      try clear hcz11_2
      try clear hcz11_3
      try clear hcz11_4
      try clear hcz12_0
      try clear hcz12_1
      try clear hcz12_2
      try clear hcz12_3
      try clear hcz12_4
      try clear hcz14_0
      try clear hcz14_1
      try clear hcz14_2
      try clear hcz14_3
      try clear hcz14_4
      try clear hcz15_0
      try clear hcz15_1
      try clear hcz15_2
      try clear hcz15_3
      try clear hcz15_4
      try clear hcz18_0
      try clear hcz18_1
      try clear hcz18_2
      try clear hcz18_3
      try clear hcz18_4
      try clear hcz25_0
      try clear hcz25_1
      try clear hcz25_2
      try clear hcz25_3
      try clear hcz25_4
      try clear hcz25_5
      try clear hcz25_6
      try clear hcz35_0
      try clear hcz35_1
      try clear hcz35_2
      try clear hcz35_3
      try clear hcz35_4
      try clear hcz35_5
      try clear hcz35_6
      try clear hcz37_0
      try clear hcz37_1
      try clear hcz37_2
      try clear hcz37_3
      try clear hcz37_4
      try clear hcz37_5
      try clear hcz37_6
      try clear hcz39_0
      try clear hcz39_1
      try clear hcz39_2
      try clear hcz39_3
      try clear hcz39_4
      try clear hcz39_5
      try clear hcz39_6
      try clear hcz41_0
      try clear hcz41_1
      try clear hcz41_2
      try clear hcz41_3
      try clear hcz41_4
      try clear hcz41_5
      try clear hcz41_6
      try clear hcz43_0
      try clear hcz43_1
      try clear hcz43_2
      try clear hcz43_3
      try clear hcz43_4
      try clear hcz43_5
      try clear hcz43_6
      try clear hcz45_0
      try clear hcz45_1
      try clear hcz45_2
      try clear hcz45_3
      try clear hcz45_4
      try clear hcz45_5
      try clear hcz45_6
      try clear hcz9_0
      try clear hcz9_1
      try clear hcz9_2
      try clear hcz9_3
      try clear hcz9_4
      try clear hfz11_0
      try clear hfz11_1
      try clear hfz11_2
      try clear hfz11_3
      try clear hfz11_4
      try clear hfz12_0
      try clear hfz12_1
      try clear hfz12_2
      try clear hfz12_3
      try clear hfz12_4
      try clear hfz14_0
      try clear hfz14_1
      try clear hfz14_2
      try clear hfz14_3
      try clear hfz14_4
      try clear hfz15_0
      try clear hfz15_1
      try clear hfz15_2
      try clear hfz15_3
      try clear hfz15_4
      try clear hfz18_0
      try clear hfz18_1
      try clear hfz18_2
      try clear hfz18_3
      try clear hfz18_4
      try clear hfz25_0
      try clear hfz25_1
      try clear hfz25_2
      try clear hfz25_3
      try clear hfz25_4
      try clear hfz25_5
      try clear hfz25_6
      try clear hfz35_0
      try clear hfz35_1
      try clear hfz35_2
      try clear hfz35_3
      try clear hfz35_4
      try clear hfz35_5
      try clear hfz35_6
      try clear hfz37_0
      try clear hfz37_1
      try clear hfz37_2
      try clear hfz37_3
      try clear hfz37_4
      try clear hfz37_5
      try clear hfz37_6
      try clear hfz39_0
      try clear hfz39_1
      try clear hfz39_2
      try clear hfz39_3
      try clear hfz39_4
      try clear hfz39_5
      try clear hfz39_6
      try clear hfz41_0
      try clear hfz41_1
      try clear hfz41_2
      try clear hfz41_3
      try clear hfz41_4
      try clear hfz41_5
      try clear hfz41_6
      try clear hfz43_0
      try clear hfz43_1
      try clear hfz43_2
      try clear hfz43_3
      try clear hfz43_4
      try clear hfz43_5
      try clear hfz43_6
      try clear hfz45_0
      try clear hfz45_1
      try clear hfz45_2
      try clear hfz45_3
      try clear hfz45_4
      try clear hfz45_5
      try clear hfz45_6
      try clear hfz9_0
      try clear hfz9_1
      try clear hfz9_2
      try clear hfz9_3
      try clear hfz9_4
      try clear hx243_0
      try clear hx243_1
      try clear hx243_2
      try clear hx243_3
      try clear hx243_4
      try clear hx243_5
      try clear hx243_6
      try clear p2
      try clear p243
      try clear q243
      obtain ⟨kq, x68_21, rfl, HA, HJ21, BK239, BK244, HB⟩ := hcut
      cases kq with
      | zero => exact absurd HA.out (by simp [impl_FlyPathOk.j2])
      | succ kj21 =>
       have H := HA.out
       clear HA
       simp only [impl_FlyPathOk.j2] at H
       by_cases c46 : x68_21 = true
       ·subst c46
        have H1 : (some false) = some r := by rw [if_pos rfl] at H; exact H
        clear H
        have H := H1
        clear H1
        obtain rfl := Option.some.inj H
        go_wp2
        go_ret
        exact ⟨ze, zs2 HB GE239 GE244⟩
       replace c46 := Bool.eq_false_iff.mpr c46
       subst c46
       have H1 : (if x28_2 = 0 then (impl_FlyPathOk.l0 kj21 l0_2 (l0_2.length : Int) (wrap64 (x28_2 + 1)) a0_0 a0_1 l0_2 a0_3 a0_4) else (if 0 ≤ (wrap64 (x28_2 - 1)) then (if (wrap64 (x28_2 - 1)) < (l0_2.length : Int) then (if ((rd_T132 l0_2 (wrap64 (x28_2 - 1))).f0) = ((rd_T132 l0_2 x28_2).f0) then (if ((rd_T132 l0_2 (wrap64 (x28_2 - 1))).f1) = ((rd_T132 l0_2 x28_2).f1) then (some false) else ((impl_dist.f ((rd_T132 l0_2 (wrap64 (x28_2 - 1))).f0) ((rd_T132 l0_2 x28_2).f0)).bind fun t250 => (if t250 > 1 then (some false) else ((impl_dist.f ((rd_T132 l0_2 (wrap64 (x28_2 - 1))).f1) ((rd_T132 l0_2 x28_2).f1)).bind fun t251 => (if t251 > 1 then (some false) else (if ((rd_T132 l0_2 (wrap64 (x28_2 - 1))).f2) > ((rd_T132 l0_2 x28_2).f3) then (some false) else (if ((rd_T132 l0_2 x28_2).f2) > ((rd_T132 l0_2 (wrap64 (x28_2 - 1))).f3) then (some false) else (impl_FlyPathOk.l0 kj21 l0_2 (l0_2.length : Int) (wrap64 (x28_2 + 1)) a0_0 a0_1 l0_2 a0_3 a0_4)))))))) else ((impl_dist.f ((rd_T132 l0_2 (wrap64 (x28_2 - 1))).f0) ((rd_T132 l0_2 x28_2).f0)).bind fun t252 => (if t252 > 1 then (some false) else ((impl_dist.f ((rd_T132 l0_2 (wrap64 (x28_2 - 1))).f1) ((rd_T132 l0_2 x28_2).f1)).bind fun t253 => (if t253 > 1 then (some false) else (if ((rd_T132 l0_2 (wrap64 (x28_2 - 1))).f2) > ((rd_T132 l0_2 x28_2).f3) then (some false) else (if ((rd_T132 l0_2 x28_2).f2) > ((rd_T132 l0_2 (wrap64 (x28_2 - 1))).f3) then (some false) else (impl_FlyPathOk.l0 kj21 l0_2 (l0_2.length : Int) (wrap64 (x28_2 + 1)) a0_0 a0_1 l0_2 a0_3 a0_4)))))))) else (none)) else (none))) = some r := by rw [if_neg (show ¬ (false = true) by decide)] at H; exact H
       clear H
       have H := H1
       clear H1
       by_cases c47 : x28_2 = 0
       ·rw [if_pos c47] at H
        have c47b0 : (x28_2 == 0) = true := beq_iff_eq.mpr c47
        have c47b1 : (x28_2 != 0) = false := bne_eq_false_iff_eq.mpr c47
        clear c47
        have H' := zA H
        clear H
        go_wp2
        go_roundg kj21
        case measure => have := HJ1.out; have := HK2.out; have := HJ21.out; omega
        case rel => exact ⟨(wrap64 (x28_2 + 1)), zi, H', ⟨by have := HJ1.out; have := HK2.out; have := HJ21.out; omega⟩, ⟨zh BK239⟩, ⟨zs2 HB GE239 GE244⟩⟩
       rw [if_neg c47] at H
       have c47b0 : (x28_2 == 0) = false := beq_eq_false_iff_ne.mpr c47
       have c47b1 : (x28_2 != 0) = true := bne_iff_ne.mpr c47
       obtain ⟨ji48, hji48⟩ : ∃ j_ : Int, (wrap64 (x28_2 - 1)) = j_ := ⟨_, rfl⟩
       replace H : (if 0 ≤ (ji48) then (if (ji48) < (l0_2.length : Int) then (if ((rd_T132 l0_2 (ji48)).f0) = ((rd_T132 l0_2 x28_2).f0) then (if ((rd_T132 l0_2 (ji48)).f1) = ((rd_T132 l0_2 x28_2).f1) then (some false) else ((impl_dist.f ((rd_T132 l0_2 (ji48)).f0) ((rd_T132 l0_2 x28_2).f0)).bind fun t250 => (if t250 > 1 then (some false) else ((impl_dist.f ((rd_T132 l0_2 (ji48)).f1) ((rd_T132 l0_2 x28_2).f1)).bind fun t251 => (if t251 > 1 then (some false) else (if ((rd_T132 l0_2 (ji48)).f2) > ((rd_T132 l0_2 x28_2).f3) then (some false) else (if ((rd_T132 l0_2 x28_2).f2) > ((rd_T132 l0_2 (ji48)).f3) then (some false) else (impl_FlyPathOk.l0 kj21 l0_2 (l0_2.length : Int) (wrap64 (x28_2 + 1)) a0_0 a0_1 l0_2 a0_3 a0_4)))))))) else ((impl_dist.f ((rd_T132 l0_2 (ji48)).f0) ((rd_T132 l0_2 x28_2).f0)).bind fun t252 => (if t252 > 1 then (some false) else ((impl_dist.f ((rd_T132 l0_2 (ji48)).f1) ((rd_T132 l0_2 x28_2).f1)).bind fun t253 => (if t253 > 1 then (some false) else (if ((rd_T132 l0_2 (ji48)).f2) > ((rd_T132 l0_2 x28_2).f3) then (some false) else (if ((rd_T132 l0_2 x28_2).f2) > ((rd_T132 l0_2 (ji48)).f3) then (some false) else (impl_FlyPathOk.l0 kj21 l0_2 (l0_2.length : Int) (wrap64 (x28_2 + 1)) a0_0 a0_1 l0_2 a0_3 a0_4)))))))) else (none)) else (none)) = some r := by first | (rw [hji48] at H; exact H) | (simp only [hji48] at H ⊢; exact H)
       have hji48w : (IntKind.i64.wrap (x28_2 - 1)) = ji48 := (i64_w _).trans hji48
       by_cases c49 : 0 ≤ (ji48)
       rotate_left
       ·rw [if_neg c49] at H
        exact absurd H (by simp)
       rw [if_pos c49] at H
       have c49b0 : decide (0 ≤ (ji48)) = true := decide_eq_true c49
       clear c49
       by_cases c50 : (ji48) < (l0_2.length : Int)
       rotate_left
       ·rw [if_neg c50] at H
        exact absurd H (by simp)
       rw [if_pos c50] at H
       have c50b0 : decide ((ji48) < (l0_2.length : Int)) = true := decide_eq_true c50
       clear c50
       by_cases c51 : ((rd_T132 l0_2 (ji48)).f0) = ((rd_T132 l0_2 x28_2).f0)
       rotate_left
       ·rw [if_neg c51] at H
        have c51b0 : (((rd_T132 l0_2 (ji48)).f0) == ((rd_T132 l0_2 x28_2).f0)) = false := beq_eq_false_iff_ne.mpr c51
        have c51b1 : (((rd_T132 l0_2 (ji48)).f0) != ((rd_T132 l0_2 x28_2).f0)) = true := bne_iff_ne.mpr c51
        replace H := Option.bind_eq_some_iff.mp H
        obtain ⟨t252, A1010, H⟩ := H
        replace H : (if t252 > 1 then (some false) else ((impl_dist.f ((rd_T132 l0_2 (ji48)).f1) ((rd_T132 l0_2 x28_2).f1)).bind fun t253 => (if t253 > 1 then (some false) else (if ((rd_T132 l0_2 (ji48)).f2) > ((rd_T132 l0_2 x28_2).f3) then (some false) else (if ((rd_T132 l0_2 x28_2).f2) > ((rd_T132 l0_2 (ji48)).f3) then (some false) else (impl_FlyPathOk.l0 kj21 l0_2 (l0_2.length : Int) (wrap64 (x28_2 + 1)) a0_0 a0_1 l0_2 a0_3 a0_4)))))) = some r := H
        have A101 := zA A1010
        clear A1010
        by_cases c102 : t252 > 1
        ·rw [if_pos c102] at H
         have c102b0 : decide (1 < t252) = true := decide_eq_true c102
         clear c102
         obtain rfl := Option.some.inj H
         have hnb103 := NB239_244.out
         have hnc103 := NB244_239.out
         obtain ⟨hcz104_0, hcz104_1, hcz104_2, hcz104_3, hcz104_4⟩ := zd5 BK239
         obtain ⟨hfz104_0, hfz104_1, hfz104_2, hfz104_3, hfz104_4⟩ := zn5 BK239
         have p248 : 0 ≤ ((ji48) : Int) := za
         have q248 : (ji48) < (l0_2.length : Int) := za
         obtain ⟨ad248, e248, hx248_0, hx248_1, hx248_2, hx248_3, hx248_4, hx248_5, hx248_6⟩ := at_T132 HR0_2.out (ji48) p248 q248
         obtain rfl : ad243 = ad248 := (by injection e248)
         replace hx248_0 := zx HB hx248_0
         replace hx248_1 := zx HB hx248_1
         replace hx248_2 := zx HB hx248_2
         replace hx248_3 := zx HB hx248_3
         replace hx248_4 := zx HB hx248_4
         replace hx248_5 := zx HB hx248_5
         replace hx248_6 := zx HB hx248_6
         replace p248 := eq_true p248
         replace q248 := eq_true q248
         go_wp2_with (first | ((with_reducible refine gate_dst (N := 5) rfl ?_); (try (refine gate_guard (by rfl) ?_; dsimp only)); refine box_event (by rfl) (N := 5) (by rfl) (cs := #[.int .i64 0, .int .i64 0, .int .i64 0, .int .i64 0, .int .i64 0, .int .i64 0, .bool false]) (t := 132) zg ?_; intro gb249 hg w105 hbox hb; have n0_ := zb BK239 hb; have n1_ := zb BK244 hb; have n2_ := zA (below_step (zs2 HB GE239 GE244) hb); have n3_ := zA (hbox); have n4_ := zA ((by rw [hg]; exact (below_size (zs2 HB GE239 GE244)) : w.heap.size ≤ gb249)); have n5_ := zA ((by rw [hg]; exact (below_size (zs2 HB GE239 GE244)) : w.heap.size ≤ gb249)); have n6_ := zA ((by rw [hg]; exact Nat.ne_of_lt (blk_lt (g := gb239) (o := .cells #[.int .i64 a0_0, .int .i64 a0_1, .slice (some ad243) l0_2.length c0_2, .int .i64 a0_3, .int .i64 a0_4] 68 (0, 0)) (zh BK239)) : gb239 ≠ gb249)); have n7_ := zA ((by rw [hg]; exact Nat.ne_of_gt (blk_lt (g := gb239) (o := .cells #[.int .i64 a0_0, .int .i64 a0_1, .slice (some ad243) l0_2.length c0_2, .int .i64 a0_3, .int .i64 a0_4] 68 (0, 0)) (zh BK239)) : gb249 ≠ gb239)); have n8_ := zA ((by rw [hg]; exact Nat.ne_of_lt (blk_lt (g := gb244) (o := .cells #[.int .i64 ((rd_T132 l0_2 x28_2).f0), .int .i64 ((rd_T132 l0_2 x28_2).f1), .int .i64 ((rd_T132 l0_2 x28_2).f2), .int .i64 ((rd_T132 l0_2 x28_2).f3), .int .i64 ((rd_T132 l0_2 x28_2).f4), .int .i64 ((rd_T132 l0_2 x28_2).f5), .bool ((rd_T132 l0_2 x28_2).f6)] 132 (0, 0)) (zh BK244)) : gb244 ≠ gb249)); have n9_ := zA ((by rw [hg]; exact Nat.ne_of_gt (blk_lt (g := gb244) (o := .cells #[.int .i64 ((rd_T132 l0_2 x28_2).f0), .int .i64 ((rd_T132 l0_2 x28_2).f1), .int .i64 ((rd_T132 l0_2 x28_2).f2), .int .i64 ((rd_T132 l0_2 x28_2).f3), .int .i64 ((rd_T132 l0_2 x28_2).f4), .int .i64 ((rd_T132 l0_2 x28_2).f5), .bool ((rd_T132 l0_2 x28_2).f6)] 132 (0, 0)) (zh BK244)) : gb249 ≠ gb244)); clear BK239; clear BK244; clear HB; have BK239 := n0_; have BK244 := n1_; have HB := n2_; have BK249 := n3_; have GW249 := n4_; have GE249 := n5_; have NB239_249 := n6_; have NB249_239 := n7_; have NB244_249 := n8_; have NB249_244 := n9_; clear n0_ n1_ n2_ n3_ n4_ n5_ n6_ n7_ n8_ n9_; clear hb hbox hg; have hnb106 := NB249_239.out; have hnc106 := NB239_249.out; have hnb107 := NB249_244.out; have hnc107 := NB244_249.out; obtain ⟨hcz108_0, hcz108_1, hcz108_2, hcz108_3, hcz108_4, hcz108_5, hcz108_6⟩ := zd7 BK249; obtain ⟨hfz108_0, hfz108_1, hfz108_2, hfz108_3, hfz108_4, hfz108_5, hfz108_6⟩ := zn7 BK249; obtain ⟨hcz109_0, hcz109_1, hcz109_2, hcz109_3, hcz109_4, hcz109_5, hcz109_6⟩ := zd7 BK244; obtain ⟨hfz109_0, hfz109_1, hfz109_2, hfz109_3, hfz109_4, hfz109_5, hfz109_6⟩ := zn7 BK244) | (go_at_call 111; (with_reducible refine (impl_dist.calls ((rd_T132 l0_2 (ji48)).f0) ((rd_T132 l0_2 x28_2).f0) t252 _ A101.out).mono ?_); rintro e w' ⟨rfl, ⟨nd, rfl⟩⟩))
         go_ret
         exact ⟨by first | rfl | (simp [errW_none, errW_some] <;> rfl) | (simp only [← hji48]; first | rfl | (simp [errW_none, errW_some] <;> rfl)) | (simp [*, errW_none, errW_some] <;> rfl), zs3 HB GE239 GE244 GE249⟩
        rw [if_neg c102] at H
        have c102b0 : decide (1 < t252) = false := decide_eq_false c102
        clear c102
        replace H := Option.bind_eq_some_iff.mp H
        obtain ⟨t253, A1100, H⟩ := H
        replace H : (if t253 > 1 then (some false) else (if ((rd_T132 l0_2 (ji48)).f2) > ((rd_T132 l0_2 x28_2).f3) then (some false) else (if ((rd_T132 l0_2 x28_2).f2) > ((rd_T132 l0_2 (ji48)).f3) then (some false) else (impl_FlyPathOk.l0 kj21 l0_2 (l0_2.length : Int) (wrap64 (x28_2 + 1)) a0_0 a0_1 l0_2 a0_3 a0_4)))) = some r := H
        have A110 := zA A1100
        clear A1100
        by_cases c111 : t253 > 1
        ·rw [if_pos c111] at H
         have c111b0 : decide (1 < t253) = true := decide_eq_true c111
         clear c111
         obtain rfl := Option.some.inj H
         have hnb112 := NB239_244.out
         have hnc112 := NB244_239.out
         obtain ⟨hcz113_0, hcz113_1, hcz113_2, hcz113_3, hcz113_4⟩ := zd5 BK239
         obtain ⟨hfz113_0, hfz113_1, hfz113_2, hfz113_3, hfz113_4⟩ := zn5 BK239
         have p248 : 0 ≤ ((ji48) : Int) := za
         have q248 : (ji48) < (l0_2.length : Int) := za
         obtain ⟨ad248, e248, hx248_0, hx248_1, hx248_2, hx248_3, hx248_4, hx248_5, hx248_6⟩ := at_T132 HR0_2.out (ji48) p248 q248
         obtain rfl : ad243 = ad248 := (by injection e248)
         replace hx248_0 := zx HB hx248_0
         replace hx248_1 := zx HB hx248_1
         replace hx248_2 := zx HB hx248_2
         replace hx248_3 := zx HB hx248_3
         replace hx248_4 := zx HB hx248_4
         replace hx248_5 := zx HB hx248_5
         replace hx248_6 := zx HB hx248_6
         replace p248 := eq_true p248
         replace q248 := eq_true q248
         go_wp2_with (first | ((with_reducible refine gate_dst (N := 5) rfl ?_); (try (refine gate_guard (by rfl) ?_; dsimp only)); refine box_event (by rfl) (N := 5) (by rfl) (cs := #[.int .i64 0, .int .i64 0, .int .i64 0, .int .i64 0, .int .i64 0, .int .i64 0, .bool false]) (t := 132) zg ?_; intro gb249 hg w114 hbox hb; have n0_ := zb BK239 hb; have n1_ := zb BK244 hb; have n2_ := zA (below_step (zs2 HB GE239 GE244) hb); have n3_ := zA (hbox); have n4_ := zA ((by rw [hg]; exact (below_size (zs2 HB GE239 GE244)) : w.heap.size ≤ gb249)); have n5_ := zA ((by rw [hg]; exact (below_size (zs2 HB GE239 GE244)) : w.heap.size ≤ gb249)); have n6_ := zA ((by rw [hg]; exact Nat.ne_of_lt (blk_lt (g := gb239) (o := .cells #[.int .i64 a0_0, .int .i64 a0_1, .slice (some ad243) l0_2.length c0_2, .int .i64 a0_3, .int .i64 a0_4] 68 (0, 0)) (zh BK239)) : gb239 ≠ gb249)); have n7_ := zA ((by rw [hg]; exact Nat.ne_of_gt (blk_lt (g := gb239) (o := .cells #[.int .i64 a0_0, .int .i64 a0_1, .slice (some ad243) l0_2.length c0_2, .int .i64 a0_3, .int .i64 a0_4] 68 (0, 0)) (zh BK239)) : gb249 ≠ gb239)); have n8_ := zA ((by rw [hg]; exact Nat.ne_of_lt (blk_lt (g := gb244) (o := .cells #[.int .i64 ((rd_T132 l0_2 x28_2).f0), .int .i64 ((rd_T132 l0_2 x28_2).f1), .int .i64 ((rd_T132 l0_2 x28_2).f2), .int .i64 ((rd_T132 l0_2 x28_2).f3), .int .i64 ((rd_T132 l0_2 x28_2).f4), .int .i64 ((rd_T132 l0_2 x28_2).f5), .bool ((rd_T132 l0_2 x28_2).f6)] 132 (0, 0)) (zh BK244)) : gb244 ≠ gb249)); have n9_ := zA ((by rw [hg]; exact Nat.ne_of_gt (blk_lt (g := gb244) (o := .cells #[.int .i64 ((rd_T132 l0_2 x28_2).f0), .int .i64 ((rd_T132 l0_2 x28_2).f1), .int .i64 ((rd_T132 l0_2 x28_2).f2), .int .i64 ((rd_T132 l0_2 x28_2).f3), .int .i64 ((rd_T132 l0_2 x28_2).f4), .int .i64 ((rd_T132 l0_2 x28_2).f5), .bool ((rd_T132 l0_2 x28_2).f6)] 132 (0, 0)) (zh BK244)) : gb249 ≠ gb244)); clear BK239; clear BK244; clear HB; have BK239 := n0_; have BK244 := n1_; have HB := n2_; have BK249 := n3_; have GW249 := n4_; have GE249 := n5_; have NB239_249 := n6_; have NB249_239 := n7_; have NB244_249 := n8_; have NB249_244 := n9_; clear n0_ n1_ n2_ n3_ n4_ n5_ n6_ n7_ n8_ n9_; clear hb hbox hg; have hnb115 := NB249_239.out; have hnc115 := NB239_249.out; have hnb116 := NB249_244.out; have hnc116 := NB244_249.out; obtain ⟨hcz117_0, hcz117_1, hcz117_2, hcz117_3, hcz117_4, hcz117_5, hcz117_6⟩ := zd7 BK249; obtain ⟨hfz117_0, hfz117_1, hfz117_2, hfz117_3, hfz117_4, hfz117_5, hfz117_6⟩ := zn7 BK249; obtain ⟨hcz118_0, hcz118_1, hcz118_2, hcz118_3, hcz118_4, hcz118_5, hcz118_6⟩ := zd7 BK244; obtain ⟨hfz118_0, hfz118_1, hfz118_2, hfz118_3, hfz118_4, hfz118_5, hfz118_6⟩ := zn7 BK244) | (go_at_call 111; (with_reducible refine (impl_dist.calls ((rd_T132 l0_2 (ji48)).f0) ((rd_T132 l0_2 x28_2).f0) t252 _ A101.out).mono ?_); rintro e w' ⟨rfl, ⟨nd, rfl⟩⟩) | (go_at_call 111; (with_reducible refine (impl_dist.calls ((rd_T132 l0_2 (ji48)).f1) ((rd_T132 l0_2 x28_2).f1) t253 _ A110.out).mono ?_); rintro e w' ⟨rfl, ⟨nd, rfl⟩⟩))
         go_ret
         exact ⟨by first | rfl | (simp [errW_none, errW_some] <;> rfl) | (simp only [← hji48]; first | rfl | (simp [errW_none, errW_some] <;> rfl)) | (simp [*, errW_none, errW_some] <;> rfl), zs3 HB GE239 GE244 GE249⟩
        rw [if_neg c111] at H
        have c111b0 : decide (1 < t253) = false := decide_eq_false c111
        clear c111
        by_cases c119 : ((rd_T132 l0_2 (ji48)).f2) > ((rd_T132 l0_2 x28_2).f3)
        ·rw [if_pos c119] at H
         have c119b0 : decide (((rd_T132 l0_2 x28_2).f3) < ((rd_T132 l0_2 (ji48)).f2)) = true := decide_eq_true c119
         clear c119
         obtain rfl := Option.some.inj H
         have hnb120 := NB239_244.out
         have hnc120 := NB244_239.out
         obtain ⟨hcz121_0, hcz121_1, hcz121_2, hcz121_3, hcz121_4⟩ := zd5 BK239
         obtain ⟨hfz121_0, hfz121_1, hfz121_2, hfz121_3, hfz121_4⟩ := zn5 BK239
         have p248 : 0 ≤ ((ji48) : Int) := za
         have q248 : (ji48) < (l0_2.length : Int) := za
         obtain ⟨ad248, e248, hx248_0, hx248_1, hx248_2, hx248_3, hx248_4, hx248_5, hx248_6⟩ := at_T132 HR0_2.out (ji48) p248 q248
         obtain rfl : ad243 = ad248 := (by injection e248)
         replace hx248_0 := zx HB hx248_0
         replace hx248_1 := zx HB hx248_1
         replace hx248_2 := zx HB hx248_2
         replace hx248_3 := zx HB hx248_3
         replace hx248_4 := zx HB hx248_4
         replace hx248_5 := zx HB hx248_5
         replace hx248_6 := zx HB hx248_6
         replace p248 := eq_true p248
         replace q248 := eq_true q248
         go_wp2_with (first | ((with_reducible refine gate_dst (N := 5) rfl ?_); (try (refine gate_guard (by rfl) ?_; dsimp only)); refine box_event (by rfl) (N := 5) (by rfl) (cs := #[.int .i64 0, .int .i64 0, .int .i64 0, .int .i64 0, .int .i64 0, .int .i64 0, .bool false]) (t := 132) zg ?_; intro gb249 hg w122 hbox hb; have n0_ := zb BK239 hb; have n1_ := zb BK244 hb; have n2_ := zA (below_step (zs2 HB GE239 GE244) hb); have n3_ := zA (hbox); have n4_ := zA ((by rw [hg]; exact (below_size (zs2 HB GE239 GE244)) : w.heap.size ≤ gb249)); have n5_ := zA ((by rw [hg]; exact (below_size (zs2 HB GE239 GE244)) : w.heap.size ≤ gb249)); have n6_ := zA ((by rw [hg]; exact Nat.ne_of_lt (blk_lt (g := gb239) (o := .cells #[.int .i64 a0_0, .int .i64 a0_1, .slice (some ad243) l0_2.length c0_2, .int .i64 a0_3, .int .i64 a0_4] 68 (0, 0)) (zh BK239)) : gb239 ≠ gb249)); have n7_ := zA ((by rw [hg]; exact Nat.ne_of_gt (blk_lt (g := gb239) (o := .cells #[.int .i64 a0_0, .int .i64 a0_1, .slice (some ad243) l0_2.length c0_2, .int .i64 a0_3, .int .i64 a0_4] 68 (0, 0)) (zh BK239)) : gb249 ≠ gb239)); have n8_ := zA ((by rw [hg]; exact Nat.ne_of_lt (blk_lt (g := gb244) (o := .cells #[.int .i64 ((rd_T132 l0_2 x28_2).f0), .int .i64 ((rd_T132 l0_2 x28_2).f1), .int .i64 ((rd_T132 l0_2 x28_2).f2), .int .i64 ((rd_T132 l0_2 x28_2).f3), .int .i64 ((rd_T132 l0_2 x28_2).f4), .int .i64 ((rd_T132 l0_2 x28_2).f5), .bool ((rd_T132 l0_2 x28_2).f6)] 132 (0, 0)) (zh BK244)) : gb244 ≠ gb249)); have n9_ := zA ((by rw [hg]; exact Nat.ne_of_gt (blk_lt (g := gb244) (o := .cells #[.int .i64 ((rd_T132 l0_2 x28_2).f0), .int .i64 ((rd_T132 l0_2 x28_2).f1), .int .i64 ((rd_T132 l0_2 x28_2).f2), .int .i64 ((rd_T132 l0_2 x28_2).f3), .int .i64 ((rd_T132 l0_2 x28_2).f4), .int .i64 ((rd_T132 l0_2 x28_2).f5), .bool ((rd_T132 l0_2 x28_2).f6)] 132 (0, 0)) (zh BK244)) : gb249 ≠ gb244)); clear BK239; clear BK244; clear HB; have BK239 := n0_; have BK244 := n1_; have HB := n2_; have BK249 := n3_; have GW249 := n4_; have GE249 := n5_; have NB239_249 := n6_; have NB249_239 := n7_; have NB244_249 := n8_; have NB249_244 := n9_; clear n0_ n1_ n2_ n3_ n4_ n5_ n6_ n7_ n8_ n9_; clear hb hbox hg; have hnb123 := NB249_239.out; have hnc123 := NB239_249.out; have hnb124 := NB249_244.out; have hnc124 := NB244_249.out; obtain ⟨hcz125_0, hcz125_1, hcz125_2, hcz125_3, hcz125_4, hcz125_5, hcz125_6⟩ := zd7 BK249; obtain ⟨hfz125_0, hfz125_1, hfz125_2, hfz125_3, hfz125_4, hfz125_5, hfz125_6⟩ := zn7 BK249; obtain ⟨hcz126_0, hcz126_1, hcz126_2, hcz126_3, hcz126_4, hcz126_5, hcz126_6⟩ := zd7 BK244; obtain ⟨hfz126_0, hfz126_1, hfz126_2, hfz126_3, hfz126_4, hfz126_5, hfz126_6⟩ := zn7 BK244) | (go_at_call 111; (with_reducible refine (impl_dist.calls ((rd_T132 l0_2 (ji48)).f0) ((rd_T132 l0_2 x28_2).f0) t252 _ A101.out).mono ?_); rintro e w' ⟨rfl, ⟨nd, rfl⟩⟩) | (go_at_call 111; (with_reducible refine (impl_dist.calls ((rd_T132 l0_2 (ji48)).f1) ((rd_T132 l0_2 x28_2).f1) t253 _ A110.out).mono ?_); rintro e w' ⟨rfl, ⟨nd, rfl⟩⟩))
         go_ret
         exact ⟨by first | rfl | (simp [errW_none, errW_some] <;> rfl) | (simp only [← hji48]; first | rfl | (simp [errW_none, errW_some] <;> rfl)) | (simp [*, errW_none, errW_some] <;> rfl), zs3 HB GE239 GE244 GE249⟩
        rw [if_neg c119] at H
        have c119b0 : decide (((rd_T132 l0_2 x28_2).f3) < ((rd_T132 l0_2 (ji48)).f2)) = false := decide_eq_false c119
        clear c119
        by_cases c127 : ((rd_T132 l0_2 x28_2).f2) > ((rd_T132 l0_2 (ji48)).f3)
        ·rw [if_pos c127] at H
         have c127b0 : decide (((rd_T132 l0_2 (ji48)).f3) < ((rd_T132 l0_2 x28_2).f2)) = true := decide_eq_true c127
         clear c127
         obtain rfl := Option.some.inj H
         have hnb128 := NB239_244.out
         have hnc128 := NB244_239.out
         obtain ⟨hcz129_0, hcz129_1, hcz129_2, hcz129_3, hcz129_4⟩ := zd5 BK239
         obtain ⟨hfz129_0, hfz129_1, hfz129_2, hfz129_3, hfz129_4⟩ := zn5 BK239
         have p248 : 0 ≤ ((ji48) : Int) := za
         have q248 : (ji48) < (l0_2.length : Int) := za
         obtain ⟨ad248, e248, hx248_0, hx248_1, hx248_2, hx248_3, hx248_4, hx248_5, hx248_6⟩ := at_T132 HR0_2.out (ji48) p248 q248
         obtain rfl : ad243 = ad248 := (by injection e248)
         replace hx248_0 := zx HB hx248_0
         replace hx248_1 := zx HB hx248_1
         replace hx248_2 := zx HB hx248_2
         replace hx248_3 := zx HB hx248_3
         replace hx248_4 := zx HB hx248_4
         replace hx248_5 := zx HB hx248_5
         replace hx248_6 := zx HB hx248_6
         replace p248 := eq_true p248
         replace q248 := eq_true q248
         go_wp2_with (first | ((with_reducible refine gate_dst (N := 5) rfl ?_); (try (refine gate_guard (by rfl) ?_; dsimp only)); refine box_event (by rfl) (N := 5) (by rfl) (cs := #[.int .i64 0, .int .i64 0, .int .i64 0, .int .i64 0, .int .i64 0, .int .i64 0, .bool false]) (t := 132) zg ?_; intro gb249 hg w130 hbox hb; have n0_ := zb BK239 hb; have n1_ := zb BK244 hb; have n2_ := zA (below_step (zs2 HB GE239 GE244) hb); have n3_ := zA (hbox); have n4_ := zA ((by rw [hg]; exact (below_size (zs2 HB GE239 GE244)) : w.heap.size ≤ gb249)); have n5_ := zA ((by rw [hg]; exact (below_size (zs2 HB GE239 GE244)) : w.heap.size ≤ gb249)); have n6_ := zA ((by rw [hg]; exact Nat.ne_of_lt (blk_lt (g := gb239) (o := .cells #[.int .i64 a0_0, .int .i64 a0_1, .slice (some ad243) l0_2.length c0_2, .int .i64 a0_3, .int .i64 a0_4] 68 (0, 0)) (zh BK239)) : gb239 ≠ gb249)); have n7_ := zA ((by rw [hg]; exact Nat.ne_of_gt (blk_lt (g := gb239) (o := .cells #[.int .i64 a0_0, .int .i64 a0_1, .slice (some ad243) l0_2.length c0_2, .int .i64 a0_3, .int .i64 a0_4] 68 (0, 0)) (zh BK239)) : gb249 ≠ gb239)); have n8_ := zA ((by rw [hg]; exact Nat.ne_of_lt (blk_lt (g := gb244) (o := .cells #[.int .i64 ((rd_T132 l0_2 x28_2).f0), .int .i64 ((rd_T132 l0_2 x28_2).f1), .int .i64 ((rd_T132 l0_2 x28_2).f2), .int .i64 ((rd_T132 l0_2 x28_2).f3), .int .i64 ((rd_T132 l0_2 x28_2).f4), .int .i64 ((rd_T132 l0_2 x28_2).f5), .bool ((rd_T132 l0_2 x28_2).f6)] 132 (0, 0)) (zh BK244)) : gb244 ≠ gb249)); have n9_ := zA ((by rw [hg]; exact Nat.ne_of_gt (blk_lt (g := gb244) (o := .cells #[.int .i64 ((rd_T132 l0_2 x28_2).f0), .int .i64 ((rd_T132 l0_2 x28_2).f1), .int .i64 ((rd_T132 l0_2 x28_2).f2), .int .i64 ((rd_T132 l0_2 x28_2).f3), .int .i64 ((rd_T132 l0_2 x28_2).f4), .int .i64 ((rd_T132 l0_2 x28_2).f5), .bool ((rd_T132 l0_2 x28_2).f6)] 132 (0, 0)) (zh BK244)) : gb249 ≠ gb244)); clear BK239; clear BK244; clear HB; have BK239 := n0_; have BK244 := n1_; have HB := n2_; have BK249 := n3_; have GW249 := n4_; have GE249 := n5_; have NB239_249 := n6_; have NB249_239 := n7_; have NB244_249 := n8_; have NB249_244 := n9_; clear n0_ n1_ n2_ n3_ n4_ n5_ n6_ n7_ n8_ n9_; clear hb hbox hg; have hnb131 := NB249_239.out; have hnc131 := NB239_249.out; have hnb132 := NB249_244.out; have hnc132 := NB244_249.out; obtain ⟨hcz133_0, hcz133_1, hcz133_2, hcz133_3, hcz133_4, hcz133_5, hcz133_6⟩ := zd7 BK249; obtain ⟨hfz133_0, hfz133_1, hfz133_2, hfz133_3, hfz133_4, hfz133_5, hfz133_6⟩ := zn7 BK249; obtain ⟨hcz134_0, hcz134_1, hcz134_2, hcz134_3, hcz134_4, hcz134_5, hcz134_6⟩ := zd7 BK244; obtain ⟨hfz134_0, hfz134_1, hfz134_2, hfz134_3, hfz134_4, hfz134_5, hfz134_6⟩ := zn7 BK244) | (go_at_call 111; (with_reducible refine (impl_dist.calls ((rd_T132 l0_2 (ji48)).f0) ((rd_T132 l0_2 x28_2).f0) t252 _ A101.out).mono ?_); rintro e w' ⟨rfl, ⟨nd, rfl⟩⟩) | (go_at_call 111; (with_reducible refine (impl_dist.calls ((rd_T132 l0_2 (ji48)).f1) ((rd_T132 l0_2 x28_2).f1) t253 _ A110.out).mono ?_); rintro e w' ⟨rfl, ⟨nd, rfl⟩⟩))
         go_ret
         exact ⟨by first | rfl | (simp [errW_none, errW_some] <;> rfl) | (simp only [← hji48]; first | rfl | (simp [errW_none, errW_some] <;> rfl)) | (simp [*, errW_none, errW_some] <;> rfl), zs3 HB GE239 GE244 GE249⟩
        rw [if_neg c127] at H
        have c127b0 : decide (((rd_T132 l0_2 (ji48)).f3) < ((rd_T132 l0_2 x28_2).f2)) = false := decide_eq_false c127
        clear c127
        have H' := zA H
        clear H
        have hnb135 := NB239_244.out
        have hnc135 := NB244_239.out
        obtain ⟨hcz136_0, hcz136_1, hcz136_2, hcz136_3, hcz136_4⟩ := zd5 BK239
        obtain ⟨hfz136_0, hfz136_1, hfz136_2, hfz136_3, hfz136_4⟩ := zn5 BK239
        have p248 : 0 ≤ ((ji48) : Int) := za
        have q248 : (ji48) < (l0_2.length : Int) := za
        obtain ⟨ad248, e248, hx248_0, hx248_1, hx248_2, hx248_3, hx248_4, hx248_5, hx248_6⟩ := at_T132 HR0_2.out (ji48) p248 q248
        obtain rfl : ad243 = ad248 := (by injection e248)
        replace hx248_0 := zx HB hx248_0
        replace hx248_1 := zx HB hx248_1
        replace hx248_2 := zx HB hx248_2
        replace hx248_3 := zx HB hx248_3
        replace hx248_4 := zx HB hx248_4
        replace hx248_5 := zx HB hx248_5
        replace hx248_6 := zx HB hx248_6
        replace p248 := eq_true p248
        replace q248 := eq_true q248
        go_wp2_with (first | ((with_reducible refine gate_dst (N := 5) rfl ?_); (try (refine gate_guard (by rfl) ?_; dsimp only)); refine box_event (by rfl) (N := 5) (by rfl) (cs := #[.int .i64 0, .int .i64 0, .int .i64 0, .int .i64 0, .int .i64 0, .int .i64 0, .bool false]) (t := 132) zg ?_; intro gb249 hg w137 hbox hb; have n0_ := zb BK239 hb; have n1_ := zb BK244 hb; have n2_ := zA (below_step (zs2 HB GE239 GE244) hb); have n3_ := zA (hbox); have n4_ := zA ((by rw [hg]; exact (below_size (zs2 HB GE239 GE244)) : w.heap.size ≤ gb249)); have n5_ := zA ((by rw [hg]; exact (below_size (zs2 HB GE239 GE244)) : w.heap.size ≤ gb249)); have n6_ := zA ((by rw [hg]; exact Nat.ne_of_lt (blk_lt (g := gb239) (o := .cells #[.int .i64 a0_0, .int .i64 a0_1, .slice (some ad243) l0_2.length c0_2, .int .i64 a0_3, .int .i64 a0_4] 68 (0, 0)) (zh BK239)) : gb239 ≠ gb249)); have n7_ := zA ((by rw [hg]; exact Nat.ne_of_gt (blk_lt (g := gb239) (o := .cells #[.int .i64 a0_0, .int .i64 a0_1, .slice (some ad243) l0_2.length c0_2, .int .i64 a0_3, .int .i64 a0_4] 68 (0, 0)) (zh BK239)) : gb249 ≠ gb239)); have n8_ := zA ((by rw [hg]; exact Nat.ne_of_lt (blk_lt (g := gb244) (o := .cells #[.int .i64 ((rd_T132 l0_2 x28_2).f0), .int .i64 ((rd_T132 l0_2 x28_2).f1), .int .i64 ((rd_T132 l0_2 x28_2).f2), .int .i64 ((rd_T132 l0_2 x28_2).f3), .int .i64 ((rd_T132 l0_2 x28_2).f4), .int .i64 ((rd_T132 l0_2 x28_2).f5), .bool ((rd_T132 l0_2 x28_2).f6)] 132 (0, 0)) (zh BK244)) : gb244 ≠ gb249)); have n9_ := zA ((by rw [hg]; exact Nat.ne_of_gt (blk_lt (g := gb244) (o := .cells #[.int .i64 ((rd_T132 l0_2 x28_2).f0), .int .i64 ((rd_T132 l0_2 x28_2).f1), .int .i64 ((rd_T132 l0_2 x28_2).f2), .int .i64 ((rd_T132 l0_2 x28_2).f3), .int .i64 ((rd_T132 l0_2 x28_2).f4), .int .i64 ((rd_T132 l0_2 x28_2).f5), .bool ((rd_T132 l0_2 x28_2).f6)] 132 (0, 0)) (zh BK244)) : gb249 ≠ gb244)); clear BK239; clear BK244; clear HB; have BK239 := n0_; have BK244 := n1_; have HB := n2_; have BK249 := n3_; have GW249 := n4_; have GE249 := n5_; have NB239_249 := n6_; have NB249_239 := n7_; have NB244_249 := n8_; have NB249_244 := n9_; clear n0_ n1_ n2_ n3_ n4_ n5_ n6_ n7_ n8_ n9_; clear hb hbox hg; have hnb138 := NB249_239.out; have hnc138 := NB239_249.out; have hnb139 := NB249_244.out; have hnc139 := NB244_249.out; obtain ⟨hcz140_0, hcz140_1, hcz140_2, hcz140_3, hcz140_4, hcz140_5, hcz140_6⟩ := zd7 BK249; obtain ⟨hfz140_0, hfz140_1, hfz140_2, hfz140_3, hfz140_4, hfz140_5, hfz140_6⟩ := zn7 BK249; obtain ⟨hcz141_0, hcz141_1, hcz141_2, hcz141_3, hcz141_4, hcz141_5, hcz141_6⟩ := zd7 BK244; obtain ⟨hfz141_0, hfz141_1, hfz141_2, hfz141_3, hfz141_4, hfz141_5, hfz141_6⟩ := zn7 BK244) | (go_at_call 111; (with_reducible refine (impl_dist.calls ((rd_T132 l0_2 (ji48)).f0) ((rd_T132 l0_2 x28_2).f0) t252 _ A101.out).mono ?_); rintro e w' ⟨rfl, ⟨nd, rfl⟩⟩) | (go_at_call 111; (with_reducible refine (impl_dist.calls ((rd_T132 l0_2 (ji48)).f1) ((rd_T132 l0_2 x28_2).f1) t253 _ A110.out).mono ?_); rintro e w' ⟨rfl, ⟨nd, rfl⟩⟩))
        go_roundg kj21
        case measure => have := HJ1.out; have := HK2.out; have := HJ21.out; omega
        case rel => exact ⟨(wrap64 (x28_2 + 1)), zi, H', ⟨by have := HJ1.out; have := HK2.out; have := HJ21.out; omega⟩, ⟨by (with_reducible repeat (first | refine blk_drewN ?_ _ | refine blk_drew ?_ | refine blk_alloc ?_ _)); refine blk_far ?_ NB239_249.out _; (with_reducible repeat (first | refine blk_drewN ?_ _ | refine blk_drew ?_ | refine blk_alloc ?_ _)); refine blk_far ?_ NB239_249.out _; (with_reducible repeat (first | refine blk_drewN ?_ _ | refine blk_drew ?_ | refine blk_alloc ?_ _)); refine blk_far ?_ NB239_249.out _; (with_reducible repeat (first | refine blk_drewN ?_ _ | refine blk_drew ?_ | refine blk_alloc ?_ _)); refine blk_far ?_ NB239_249.out _; (with_reducible repeat (first | refine blk_drewN ?_ _ | refine blk_drew ?_ | refine blk_alloc ?_ _)); refine blk_far ?_ NB239_249.out _; (with_reducible repeat (first | refine blk_drewN ?_ _ | refine blk_drew ?_ | refine blk_alloc ?_ _)); refine blk_far ?_ NB239_249.out _; (with_reducible repeat (first | refine blk_drewN ?_ _ | refine blk_drew ?_ | refine blk_alloc ?_ _)); refine blk_far ?_ NB239_249.out _; (with_reducible repeat (first | refine blk_drewN ?_ _ | refine blk_drew ?_ | refine blk_alloc ?_ _)); exact BK239.out⟩, ⟨zs3 HB GE239 GE244 GE249⟩⟩
       rw [if_pos c51] at H
       have c51b0 : (((rd_T132 l0_2 (ji48)).f0) == ((rd_T132 l0_2 x28_2).f0)) = true := beq_iff_eq.mpr c51
       have c51b1 : (((rd_T132 l0_2 (ji48)).f0) != ((rd_T132 l0_2 x28_2).f0)) = false := bne_eq_false_iff_eq.mpr c51
       clear c51
       by_cases c52 : ((rd_T132 l0_2 (ji48)).f1) = ((rd_T132 l0_2 x28_2).f1)
       ·rw [if_pos c52] at H
        have c52b0 : (((rd_T132 l0_2 (ji48)).f1) == ((rd_T132 l0_2 x28_2).f1)) = true := beq_iff_eq.mpr c52
        have c52b1 : (((rd_T132 l0_2 (ji48)).f1) != ((rd_T132 l0_2 x28_2).f1)) = false := bne_eq_false_iff_eq.mpr c52
        clear c52
        obtain rfl := Option.some.inj H
        have hnb53 := NB239_244.out
        have hnc53 := NB244_239.out
        obtain ⟨hcz54_0, hcz54_1, hcz54_2, hcz54_3, hcz54_4⟩ := zd5 BK239
        obtain ⟨hfz54_0, hfz54_1, hfz54_2, hfz54_3, hfz54_4⟩ := zn5 BK239
        have p248 : 0 ≤ ((ji48) : Int) := za
        have q248 : (ji48) < (l0_2.length : Int) := za
        obtain ⟨ad248, e248, hx248_0, hx248_1, hx248_2, hx248_3, hx248_4, hx248_5, hx248_6⟩ := at_T132 HR0_2.out (ji48) p248 q248
        obtain rfl : ad243 = ad248 := (by injection e248)
        replace hx248_0 := zx HB hx248_0
        replace hx248_1 := zx HB hx248_1
        replace hx248_2 := zx HB hx248_2
        replace hx248_3 := zx HB hx248_3
        replace hx248_4 := zx HB hx248_4
        replace hx248_5 := zx HB hx248_5
        replace hx248_6 := zx HB hx248_6
        replace p248 := eq_true p248
        replace q248 := eq_true q248
        go_wp2_with (first | ((with_reducible refine gate_dst (N := 5) rfl ?_); (try (refine gate_guard (by rfl) ?_; dsimp only)); refine box_event (by rfl) (N := 5) (by rfl) (cs := #[.int .i64 0, .int .i64 0, .int .i64 0, .int .i64 0, .int .i64 0, .int .i64 0, .bool false]) (t := 132) zg ?_; intro gb249 hg w55 hbox hb; have n0_ := zb BK239 hb; have n1_ := zb BK244 hb; have n2_ := zA (below_step (zs2 HB GE239 GE244) hb); have n3_ := zA (hbox); have n4_ := zA ((by rw [hg]; exact (below_size (zs2 HB GE239 GE244)) : w.heap.size ≤ gb249)); have n5_ := zA ((by rw [hg]; exact (below_size (zs2 HB GE239 GE244)) : w.heap.size ≤ gb249)); have n6_ := zA ((by rw [hg]; exact Nat.ne_of_lt (blk_lt (g := gb239) (o := .cells #[.int .i64 a0_0, .int .i64 a0_1, .slice (some ad243) l0_2.length c0_2, .int .i64 a0_3, .int .i64 a0_4] 68 (0, 0)) (zh BK239)) : gb239 ≠ gb249)); have n7_ := zA ((by rw [hg]; exact Nat.ne_of_gt (blk_lt (g := gb239) (o := .cells #[.int .i64 a0_0, .int .i64 a0_1, .slice (some ad243) l0_2.length c0_2, .int .i64 a0_3, .int .i64 a0_4] 68 (0, 0)) (zh BK239)) : gb249 ≠ gb239)); have n8_ := zA ((by rw [hg]; exact Nat.ne_of_lt (blk_lt (g := gb244) (o := .cells #[.int .i64 ((rd_T132 l0_2 x28_2).f0), .int .i64 ((rd_T132 l0_2 x28_2).f1), .int .i64 ((rd_T132 l0_2 x28_2).f2), .int .i64 ((rd_T132 l0_2 x28_2).f3), .int .i64 ((rd_T132 l0_2 x28_2).f4), .int .i64 ((rd_T132 l0_2 x28_2).f5), .bool ((rd_T132 l0_2 x28_2).f6)] 132 (0, 0)) (zh BK244)) : gb244 ≠ gb249)); have n9_ := zA ((by rw [hg]; exact Nat.ne_of_gt (blk_lt (g := gb244) (o := .cells #[.int .i64 ((rd_T132 l0_2 x28_2).f0), .int .i64 ((rd_T132 l0_2 x28_2).f1), .int .i64 ((rd_T132 l0_2 x28_2).f2), .int .i64 ((rd_T132 l0_2 x28_2).f3), .int .i64 ((rd_T132 l0_2 x28_2).f4), .int .i64 ((rd_T132 l0_2 x28_2).f5), .bool ((rd_T132 l0_2 x28_2).f6)] 132 (0, 0)) (zh BK244)) : gb249 ≠ gb244)); clear BK239; clear BK244; clear HB; have BK239 := n0_; have BK244 := n1_; have HB := n2_; have BK249 := n3_; have GW249 := n4_; have GE249 := n5_; have NB239_249 := n6_; have NB249_239 := n7_; have NB244_249 := n8_; have NB249_244 := n9_; clear n0_ n1_ n2_ n3_ n4_ n5_ n6_ n7_ n8_ n9_; clear hb hbox hg; have hnb56 := NB249_239.out; have hnc56 := NB239_249.out; have hnb57 := NB249_244.out; have hnc57 := NB244_249.out; obtain ⟨hcz58_0, hcz58_1, hcz58_2, hcz58_3, hcz58_4, hcz58_5, hcz58_6⟩ := zd7 BK249; obtain ⟨hfz58_0, hfz58_1, hfz58_2, hfz58_3, hfz58_4, hfz58_5, hfz58_6⟩ := zn7 BK249; obtain ⟨hcz59_0, hcz59_1, hcz59_2, hcz59_3, hcz59_4, hcz59_5, hcz59_6⟩ := zd7 BK244; obtain ⟨hfz59_0, hfz59_1, hfz59_2, hfz59_3, hfz59_4, hfz59_5, hfz59_6⟩ := zn7 BK244))
        go_ret
        exact ⟨by first | rfl | (simp [errW_none, errW_some] <;> rfl) | (simp only [← hji48]; first | rfl | (simp [errW_none, errW_some] <;> rfl)) | (simp [*, errW_none, errW_some] <;> rfl), zs3 HB GE239 GE244 GE249⟩
       rw [if_neg c52] at H
       have c52b0 : (((rd_T132 l0_2 (ji48)).f1) == ((rd_T132 l0_2 x28_2).f1)) = false := beq_eq_false_iff_ne.mpr c52
       have c52b1 : (((rd_T132 l0_2 (ji48)).f1) != ((rd_T132 l0_2 x28_2).f1)) = true := bne_iff_ne.mpr c52
       replace H := Option.bind_eq_some_iff.mp H
       obtain ⟨t250, A600, H⟩ := H
       replace H : (if t250 > 1 then (some false) else ((impl_dist.f ((rd_T132 l0_2 (ji48)).f1) ((rd_T132 l0_2 x28_2).f1)).bind fun t251 => (if t251 > 1 then (some false) else (if ((rd_T132 l0_2 (ji48)).f2) > ((rd_T132 l0_2 x28_2).f3) then (some false) else (if ((rd_T132 l0_2 x28_2).f2) > ((rd_T132 l0_2 (ji48)).f3) then (some false) else (impl_FlyPathOk.l0 kj21 l0_2 (l0_2.length : Int) (wrap64 (x28_2 + 1)) a0_0 a0_1 l0_2 a0_3 a0_4)))))) = some r := H
       have A60 := zA A600
       clear A600
       by_cases c61 : t250 > 1
       ·rw [if_pos c61] at H
        have c61b0 : decide (1 < t250) = true := decide_eq_true c61
        clear c61
        obtain rfl := Option.some.inj H
        have hnb62 := NB239_244.out
        have hnc62 := NB244_239.out
        obtain ⟨hcz63_0, hcz63_1, hcz63_2, hcz63_3, hcz63_4⟩ := zd5 BK239
        obtain ⟨hfz63_0, hfz63_1, hfz63_2, hfz63_3, hfz63_4⟩ := zn5 BK239
        have p248 : 0 ≤ ((ji48) : Int) := za
        have q248 : (ji48) < (l0_2.length : Int) := za
        obtain ⟨ad248, e248, hx248_0, hx248_1, hx248_2, hx248_3, hx248_4, hx248_5, hx248_6⟩ := at_T132 HR0_2.out (ji48) p248 q248
        obtain rfl : ad243 = ad248 := (by injection e248)
        replace hx248_0 := zx HB hx248_0
        replace hx248_1 := zx HB hx248_1
        replace hx248_2 := zx HB hx248_2
        replace hx248_3 := zx HB hx248_3
        replace hx248_4 := zx HB hx248_4
        replace hx248_5 := zx HB hx248_5
        replace hx248_6 := zx HB hx248_6
        replace p248 := eq_true p248
        replace q248 := eq_true q248
        go_wp2_with (first | ((with_reducible refine gate_dst (N := 5) rfl ?_); (try (refine gate_guard (by rfl) ?_; dsimp only)); refine box_event (by rfl) (N := 5) (by rfl) (cs := #[.int .i64 0, .int .i64 0, .int .i64 0, .int .i64 0, .int .i64 0, .int .i64 0, .bool false]) (t := 132) zg ?_; intro gb249 hg w64 hbox hb; have n0_ := zb BK239 hb; have n1_ := zb BK244 hb; have n2_ := zA (below_step (zs2 HB GE239 GE244) hb); have n3_ := zA (hbox); have n4_ := zA ((by rw [hg]; exact (below_size (zs2 HB GE239 GE244)) : w.heap.size ≤ gb249)); have n5_ := zA ((by rw [hg]; exact (below_size (zs2 HB GE239 GE244)) : w.heap.size ≤ gb249)); have n6_ := zA ((by rw [hg]; exact Nat.ne_of_lt (blk_lt (g := gb239) (o := .cells #[.int .i64 a0_0, .int .i64 a0_1, .slice (some ad243) l0_2.length c0_2, .int .i64 a0_3, .int .i64 a0_4] 68 (0, 0)) (zh BK239)) : gb239 ≠ gb249)); have n7_ := zA ((by rw [hg]; exact Nat.ne_of_gt (blk_lt (g := gb239) (o := .cells #[.int .i64 a0_0, .int .i64 a0_1, .slice (some ad243) l0_2.length c0_2, .int .i64 a0_3, .int .i64 a0_4] 68 (0, 0)) (zh BK239)) : gb249 ≠ gb239)); have n8_ := zA ((by rw [hg]; exact Nat.ne_of_lt (blk_lt (g := gb244) (o := .cells #[.int .i64 ((rd_T132 l0_2 x28_2).f0), .int .i64 ((rd_T132 l0_2 x28_2).f1), .int .i64 ((rd_T132 l0_2 x28_2).f2), .int .i64 ((rd_T132 l0_2 x28_2).f3), .int .i64 ((rd_T132 l0_2 x28_2).f4), .int .i64 ((rd_T132 l0_2 x28_2).f5), .bool ((rd_T132 l0_2 x28_2).f6)] 132 (0, 0)) (zh BK244)) : gb244 ≠ gb249)); have n9_ := zA ((by rw [hg]; exact Nat.ne_of_gt (blk_lt (g := gb244) (o := .cells #[.int .i64 ((rd_T132 l0_2 x28_2).f0), .int .i64 ((rd_T132 l0_2 x28_2).f1), .int .i64 ((rd_T132 l0_2 x28_2).f2), .int .i64 ((rd_T132 l0_2 x28_2).f3), .int .i64 ((rd_T132 l0_2 x28_2).f4), .int .i64 ((rd_T132 l0_2 x28_2).f5), .bool ((rd_T132 l0_2 x28_2).f6)] 132 (0, 0)) (zh BK244)) : gb249 ≠ gb244)); clear BK239; clear BK244; clear HB; have BK239 := n0_; have BK244 := n1_; have HB := n2_; have BK249 := n3_; have GW249 := n4_; have GE249 := n5_; have NB239_249 := n6_; have NB249_239 := n7_; have NB244_249 := n8_; have NB249_244 := n9_; clear n0_ n1_ n2_ n3_ n4_ n5_ n6_ n7_ n8_ n9_; clear hb hbox hg; have hnb65 := NB249_239.out; have hnc65 := NB239_249.out; have hnb66 := NB249_244.out; have hnc66 := NB244_249.out; obtain ⟨hcz67_0, hcz67_1, hcz67_2, hcz67_3, hcz67_4, hcz67_5, hcz67_6⟩ := zd7 BK249; obtain ⟨hfz67_0, hfz67_1, hfz67_2, hfz67_3, hfz67_4, hfz67_5, hfz67_6⟩ := zn7 BK249; obtain ⟨hcz68_0, hcz68_1, hcz68_2, hcz68_3, hcz68_4, hcz68_5, hcz68_6⟩ := zd7 BK244; obtain ⟨hfz68_0, hfz68_1, hfz68_2, hfz68_3, hfz68_4, hfz68_5, hfz68_6⟩ := zn7 BK244) | (go_at_call 111; (with_reducible refine (impl_dist.calls ((rd_T132 l0_2 (ji48)).f0) ((rd_T132 l0_2 x28_2).f0) t250 _ A60.out).mono ?_); rintro e w' ⟨rfl, ⟨nd, rfl⟩⟩))
        go_ret
        exact ⟨by first | rfl | (simp [errW_none, errW_some] <;> rfl) | (simp only [← hji48]; first | rfl | (simp [errW_none, errW_some] <;> rfl)) | (simp [*, errW_none, errW_some] <;> rfl), zs3 HB GE239 GE244 GE249⟩
       rw [if_neg c61] at H
       have c61b0 : decide (1 < t250) = false := decide_eq_false c61
       clear c61
       replace H := Option.bind_eq_some_iff.mp H
       obtain ⟨t251, A690, H⟩ := H
       replace H : (if t251 > 1 then (some false) else (if ((rd_T132 l0_2 (ji48)).f2) > ((rd_T132 l0_2 x28_2).f3) then (some false) else (if ((rd_T132 l0_2 x28_2).f2) > ((rd_T132 l0_2 (ji48)).f3) then (some false) else (impl_FlyPathOk.l0 kj21 l0_2 (l0_2.length : Int) (wrap64 (x28_2 + 1)) a0_0 a0_1 l0_2 a0_3 a0_4)))) = some r := H
       have A69 := zA A690
       clear A690
       by_cases c70 : t251 > 1
       ·rw [if_pos c70] at H
        have c70b0 : decide (1 < t251) = true := decide_eq_true c70
        clear c70
        obtain rfl := Option.some.inj H
        have hnb71 := NB239_244.out
        have hnc71 := NB244_239.out
        obtain ⟨hcz72_0, hcz72_1, hcz72_2, hcz72_3, hcz72_4⟩ := zd5 BK239
        obtain ⟨hfz72_0, hfz72_1, hfz72_2, hfz72_3, hfz72_4⟩ := zn5 BK239
        have p248 : 0 ≤ ((ji48) : Int) := za
        have q248 : (ji48) < (l0_2.length : Int) := za
        obtain ⟨ad248, e248, hx248_0, hx248_1, hx248_2, hx248_3, hx248_4, hx248_5, hx248_6⟩ := at_T132 HR0_2.out (ji48) p248 q248
        obtain rfl : ad243 = ad248 := (by injection e248)
        replace hx248_0 := zx HB hx248_0
        replace hx248_1 := zx HB hx248_1
        replace hx248_2 := zx HB hx248_2
        replace hx248_3 := zx HB hx248_3
        replace hx248_4 := zx HB hx248_4
        replace hx248_5 := zx HB hx248_5
        replace hx248_6 := zx HB hx248_6
        replace p248 := eq_true p248
        replace q248 := eq_true q248
        go_wp2_with (first | ((with_reducible refine gate_dst (N := 5) rfl ?_); (try (refine gate_guard (by rfl) ?_; dsimp only)); refine box_event (by rfl) (N := 5) (by rfl) (cs := #[.int .i64 0, .int .i64 0, .int .i64 0, .int .i64 0, .int .i64 0, .int .i64 0, .bool false]) (t := 132) zg ?_; intro gb249 hg w73 hbox hb; have n0_ := zb BK239 hb; have n1_ := zb BK244 hb; have n2_ := zA (below_step (zs2 HB GE239 GE244) hb); have n3_ := zA (hbox); have n4_ := zA ((by rw [hg]; exact (below_size (zs2 HB GE239 GE244)) : w.heap.size ≤ gb249)); have n5_ := zA ((by rw [hg]; exact (below_size (zs2 HB GE239 GE244)) : w.heap.size ≤ gb249)); have n6_ := zA ((by rw [hg]; exact Nat.ne_of_lt (blk_lt (g := gb239) (o := .cells #[.int .i64 a0_0, .int .i64 a0_1, .slice (some ad243) l0_2.length c0_2, .int .i64 a0_3, .int .i64 a0_4] 68 (0, 0)) (zh BK239)) : gb239 ≠ gb249)); have n7_ := zA ((by rw [hg]; exact Nat.ne_of_gt (blk_lt (g := gb239) (o := .cells #[.int .i64 a0_0, .int .i64 a0_1, .slice (some ad243) l0_2.length c0_2, .int .i64 a0_3, .int .i64 a0_4] 68 (0, 0)) (zh BK239)) : gb249 ≠ gb239)); have n8_ := zA ((by rw [hg]; exact Nat.ne_of_lt (blk_lt (g := gb244) (o := .cells #[.int .i64 ((rd_T132 l0_2 x28_2).f0), .int .i64 ((rd_T132 l0_2 x28_2).f1), .int .i64 ((rd_T132 l0_2 x28_2).f2), .int .i64 ((rd_T132 l0_2 x28_2).f3), .int .i64 ((rd_T132 l0_2 x28_2).f4), .int .i64 ((rd_T132 l0_2 x28_2).f5), .bool ((rd_T132 l0_2 x28_2).f6)] 132 (0, 0)) (zh BK244)) : gb244 ≠ gb249)); have n9_ := zA ((by rw [hg]; exact Nat.ne_of_gt (blk_lt (g := gb244) (o := .cells #[.int .i64 ((rd_T132 l0_2 x28_2).f0), .int .i64 ((rd_T132 l0_2 x28_2).f1), .int .i64 ((rd_T132 l0_2 x28_2).f2), .int .i64 ((rd_T132 l0_2 x28_2).f3), .int .i64 ((rd_T132 l0_2 x28_2).f4), .int .i64 ((rd_T132 l0_2 x28_2).f5), .bool ((rd_T132 l0_2 x28_2).f6)] 132 (0, 0)) (zh BK244)) : gb249 ≠ gb244)); clear BK239; clear BK244; clear HB; have BK239 := n0_; have BK244 := n1_; have HB := n2_; have BK249 := n3_; have GW249 := n4_; have GE249 := n5_; have NB239_249 := n6_; have NB249_239 := n7_; have NB244_249 := n8_; have NB249_244 := n9_; clear n0_ n1_ n2_ n3_ n4_ n5_ n6_ n7_ n8_ n9_; clear hb hbox hg; have hnb74 := NB249_239.out; have hnc74 := NB239_249.out; have hnb75 := NB249_244.out; have hnc75 := NB244_249.out; obtain ⟨hcz76_0, hcz76_1, hcz76_2, hcz76_3, hcz76_4, hcz76_5, hcz76_6⟩ := zd7 BK249; obtain ⟨hfz76_0, hfz76_1, hfz76_2, hfz76_3, hfz76_4, hfz76_5, hfz76_6⟩ := zn7 BK249; obtain ⟨hcz77_0, hcz77_1, hcz77_2, hcz77_3, hcz77_4, hcz77_5, hcz77_6⟩ := zd7 BK244; obtain ⟨hfz77_0, hfz77_1, hfz77_2, hfz77_3, hfz77_4, hfz77_5, hfz77_6⟩ := zn7 BK244) | (go_at_call 111; (with_reducible refine (impl_dist.calls ((rd_T132 l0_2 (ji48)).f0) ((rd_T132 l0_2 x28_2).f0) t250 _ A60.out).mono ?_); rintro e w' ⟨rfl, ⟨nd, rfl⟩⟩) | (go_at_call 111; (with_reducible refine (impl_dist.calls ((rd_T132 l0_2 (ji48)).f1) ((rd_T132 l0_2 x28_2).f1) t251 _ A69.out).mono ?_); rintro e w' ⟨rfl, ⟨nd, rfl⟩⟩))
        go_ret
        exact ⟨by first | rfl | (simp [errW_none, errW_some] <;> rfl) | (simp only [← hji48]; first | rfl | (simp [errW_none, errW_some] <;> rfl)) | (simp [*, errW_none, errW_some] <;> rfl), zs3 HB GE239 GE244 GE249⟩
       rw [if_neg c70] at H
       have c70b0 : decide (1 < t251) = false := decide_eq_false c70
       clear c70
       by_cases c78 : ((rd_T132 l0_2 (ji48)).f2) > ((rd_T132 l0_2 x28_2).f3)
       ·rw [if_pos c78] at H
        have c78b0 : decide (((rd_T132 l0_2 x28_2).f3) < ((rd_T132 l0_2 (ji48)).f2)) = true := decide_eq_true c78
        clear c78
        obtain rfl := Option.some.inj H
        have hnb79 := NB239_244.out
        have hnc79 := NB244_239.out
        obtain ⟨hcz80_0, hcz80_1, hcz80_2, hcz80_3, hcz80_4⟩ := zd5 BK239
        obtain ⟨hfz80_0, hfz80_1, hfz80_2, hfz80_3, hfz80_4⟩ := zn5 BK239
        have p248 : 0 ≤ ((ji48) : Int) := za
        have q248 : (ji48) < (l0_2.length : Int) := za
        obtain ⟨ad248, e248, hx248_0, hx248_1, hx248_2, hx248_3, hx248_4, hx248_5, hx248_6⟩ := at_T132 HR0_2.out (ji48) p248 q248
        obtain rfl : ad243 = ad248 := (by injection e248)
        replace hx248_0 := zx HB hx248_0
        replace hx248_1 := zx HB hx248_1
        replace hx248_2 := zx HB hx248_2
        replace hx248_3 := zx HB hx248_3
        replace hx248_4 := zx HB hx248_4
        replace hx248_5 := zx HB hx248_5
        replace hx248_6 := zx HB hx248_6
        replace p248 := eq_true p248
        replace q248 := eq_true q248
        go_wp2_with (first | ((with_reducible refine gate_dst (N := 5) rfl ?_); (try (refine gate_guard (by rfl) ?_; dsimp only)); refine box_event (by rfl) (N := 5) (by rfl) (cs := #[.int .i64 0, .int .i64 0, .int .i64 0, .int .i64 0, .int .i64 0, .int .i64 0, .bool false]) (t := 132) zg ?_; intro gb249 hg w81 hbox hb; have n0_ := zb BK239 hb; have n1_ := zb BK244 hb; have n2_ := zA (below_step (zs2 HB GE239 GE244) hb); have n3_ := zA (hbox); have n4_ := zA ((by rw [hg]; exact (below_size (zs2 HB GE239 GE244)) : w.heap.size ≤ gb249)); have n5_ := zA ((by rw [hg]; exact (below_size (zs2 HB GE239 GE244)) : w.heap.size ≤ gb249)); have n6_ := zA ((by rw [hg]; exact Nat.ne_of_lt (blk_lt (g := gb239) (o := .cells #[.int .i64 a0_0, .int .i64 a0_1, .slice (some ad243) l0_2.length c0_2, .int .i64 a0_3, .int .i64 a0_4] 68 (0, 0)) (zh BK239)) : gb239 ≠ gb249)); have n7_ := zA ((by rw [hg]; exact Nat.ne_of_gt (blk_lt (g := gb239) (o := .cells #[.int .i64 a0_0, .int .i64 a0_1, .slice (some ad243) l0_2.length c0_2, .int .i64 a0_3, .int .i64 a0_4] 68 (0, 0)) (zh BK239)) : gb249 ≠ gb239)); have n8_ := zA ((by rw [hg]; exact Nat.ne_of_lt (blk_lt (g := gb244) (o := .cells #[.int .i64 ((rd_T132 l0_2 x28_2).f0), .int .i64 ((rd_T132 l0_2 x28_2).f1), .int .i64 ((rd_T132 l0_2 x28_2).f2), .int .i64 ((rd_T132 l0_2 x28_2).f3), .int .i64 ((rd_T132 l0_2 x28_2).f4), .int .i64 ((rd_T132 l0_2 x28_2).f5), .bool ((rd_T132 l0_2 x28_2).f6)] 132 (0, 0)) (zh BK244)) : gb244 ≠ gb249)); have n9_ := zA ((by rw [hg]; exact Nat.ne_of_gt (blk_lt (g := gb244) (o := .cells #[.int .i64 ((rd_T132 l0_2 x28_2).f0), .int .i64 ((rd_T132 l0_2 x28_2).f1), .int .i64 ((rd_T132 l0_2 x28_2).f2), .int .i64 ((rd_T132 l0_2 x28_2).f3), .int .i64 ((rd_T132 l0_2 x28_2).f4), .int .i64 ((rd_T132 l0_2 x28_2).f5), .bool ((rd_T132 l0_2 x28_2).f6)] 132 (0, 0)) (zh BK244)) : gb249 ≠ gb244)); clear BK239; clear BK244; clear HB; have BK239 := n0_; have BK244 := n1_; have HB := n2_; have BK249 := n3_; have GW249 := n4_; have GE249 := n5_; have NB239_249 := n6_; have NB249_239 := n7_; have NB244_249 := n8_; have NB249_244 := n9_; clear n0_ n1_ n2_ n3_ n4_ n5_ n6_ n7_ n8_ n9_; clear hb hbox hg; have hnb82 := NB249_239.out; have hnc82 := NB239_249.out; have hnb83 := NB249_244.out; have hnc83 := NB244_249.out; obtain ⟨hcz84_0, hcz84_1, hcz84_2, hcz84_3, hcz84_4, hcz84_5, hcz84_6⟩ := zd7 BK249; obtain ⟨hfz84_0, hfz84_1, hfz84_2, hfz84_3, hfz84_4, hfz84_5, hfz84_6⟩ := zn7 BK249; obtain ⟨hcz85_0, hcz85_1, hcz85_2, hcz85_3, hcz85_4, hcz85_5, hcz85_6⟩ := zd7 BK244; obtain ⟨hfz85_0, hfz85_1, hfz85_2, hfz85_3, hfz85_4, hfz85_5, hfz85_6⟩ := zn7 BK244) | (go_at_call 111; (with_reducible refine (impl_dist.calls ((rd_T132 l0_2 (ji48)).f0) ((rd_T132 l0_2 x28_2).f0) t250 _ A60.out).mono ?_); rintro e w' ⟨rfl, ⟨nd, rfl⟩⟩) | (go_at_call 111; (with_reducible refine (impl_dist.calls ((rd_T132 l0_2 (ji48)).f1) ((rd_T132 l0_2 x28_2).f1) t251 _ A69.out).mono ?_); rintro e w' ⟨rfl, ⟨nd, rfl⟩⟩))
        go_ret
        exact ⟨by first | rfl | (simp [errW_none, errW_some] <;> rfl) | (simp only [← hji48]; first | rfl | (simp [errW_none, errW_some] <;> rfl)) | (simp [*, errW_none, errW_some] <;> rfl), zs3 HB GE239 GE244 GE249⟩
       rw [if_neg c78] at H
       have c78b0 : decide (((rd_T132 l0_2 x28_2).f3) < ((rd_T132 l0_2 (ji48)).f2)) = false := decide_eq_false c78
       clear c78
       by_cases c86 : ((rd_T132 l0_2 x28_2).f2) > ((rd_T132 l0_2 (ji48)).f3)
       ·rw [if_pos c86] at H
        have c86b0 : decide (((rd_T132 l0_2 (ji48)).f3) < ((rd_T132 l0_2 x28_2).f2)) = true := decide_eq_true c86
        clear c86
        obtain rfl := Option.some.inj H
        have hnb87 := NB239_244.out
        have hnc87 := NB244_239.out
        obtain ⟨hcz88_0, hcz88_1, hcz88_2, hcz88_3, hcz88_4⟩ := zd5 BK239
        obtain ⟨hfz88_0, hfz88_1, hfz88_2, hfz88_3, hfz88_4⟩ := zn5 BK239
        have p248 : 0 ≤ ((ji48) : Int) := za
        have q248 : (ji48) < (l0_2.length : Int) := za
        obtain ⟨ad248, e248, hx248_0, hx248_1, hx248_2, hx248_3, hx248_4, hx248_5, hx248_6⟩ := at_T132 HR0_2.out (ji48) p248 q248
        obtain rfl : ad243 = ad248 := (by injection e248)
        replace hx248_0 := zx HB hx248_0
        replace hx248_1 := zx HB hx248_1
        replace hx248_2 := zx HB hx248_2
        replace hx248_3 := zx HB hx248_3
        replace hx248_4 := zx HB hx248_4
        replace hx248_5 := zx HB hx248_5
        replace hx248_6 := zx HB hx248_6
        replace p248 := eq_true p248
        replace q248 := eq_true q248
        go_wp2_with (first | ((with_reducible refine gate_dst (N := 5) rfl ?_); (try (refine gate_guard (by rfl) ?_; dsimp only)); refine box_event (by rfl) (N := 5) (by rfl) (cs := #[.int .i64 0, .int .i64 0, .int .i64 0, .int .i64 0, .int .i64 0, .int .i64 0, .bool false]) (t := 132) zg ?_; intro gb249 hg w89 hbox hb; have n0_ := zb BK239 hb; have n1_ := zb BK244 hb; have n2_ := zA (below_step (zs2 HB GE239 GE244) hb); have n3_ := zA (hbox); have n4_ := zA ((by rw [hg]; exact (below_size (zs2 HB GE239 GE244)) : w.heap.size ≤ gb249)); have n5_ := zA ((by rw [hg]; exact (below_size (zs2 HB GE239 GE244)) : w.heap.size ≤ gb249)); have n6_ := zA ((by rw [hg]; exact Nat.ne_of_lt (blk_lt (g := gb239) (o := .cells #[.int .i64 a0_0, .int .i64 a0_1, .slice (some ad243) l0_2.length c0_2, .int .i64 a0_3, .int .i64 a0_4] 68 (0, 0)) (zh BK239)) : gb239 ≠ gb249)); have n7_ := zA ((by rw [hg]; exact Nat.ne_of_gt (blk_lt (g := gb239) (o := .cells #[.int .i64 a0_0, .int .i64 a0_1, .slice (some ad243) l0_2.length c0_2, .int .i64 a0_3, .int .i64 a0_4] 68 (0, 0)) (zh BK239)) : gb249 ≠ gb239)); have n8_ := zA ((by rw [hg]; exact Nat.ne_of_lt (blk_lt (g := gb244) (o := .cells #[.int .i64 ((rd_T132 l0_2 x28_2).f0), .int .i64 ((rd_T132 l0_2 x28_2).f1), .int .i64 ((rd_T132 l0_2 x28_2).f2), .int .i64 ((rd_T132 l0_2 x28_2).f3), .int .i64 ((rd_T132 l0_2 x28_2).f4), .int .i64 ((rd_T132 l0_2 x28_2).f5), .bool ((rd_T132 l0_2 x28_2).f6)] 132 (0, 0)) (zh BK244)) : gb244 ≠ gb249)); have n9_ := zA ((by rw [hg]; exact Nat.ne_of_gt (blk_lt (g := gb244) (o := .cells #[.int .i64 ((rd_T132 l0_2 x28_2).f0), .int .i64 ((rd_T132 l0_2 x28_2).f1), .int .i64 ((rd_T132 l0_2 x28_2).f2), .int .i64 ((rd_T132 l0_2 x28_2).f3), .int .i64 ((rd_T132 l0_2 x28_2).f4), .int .i64 ((rd_T132 l0_2 x28_2).f5), .bool ((rd_T132 l0_2 x28_2).f6)] 132 (0, 0)) (zh BK244)) : gb249 ≠ gb244)); clear BK239; clear BK244; clear HB; have BK239 := n0_; have BK244 := n1_; have HB := n2_; have BK249 := n3_; have GW249 := n4_; have GE249 := n5_; have NB239_249 := n6_; have NB249_239 := n7_; have NB244_249 := n8_; have NB249_244 := n9_; clear n0_ n1_ n2_ n3_ n4_ n5_ n6_ n7_ n8_ n9_; clear hb hbox hg; have hnb90 := NB249_239.out; have hnc90 := NB239_249.out; have hnb91 := NB249_244.out; have hnc91 := NB244_249.out; obtain ⟨hcz92_0, hcz92_1, hcz92_2, hcz92_3, hcz92_4, hcz92_5, hcz92_6⟩ := zd7 BK249; obtain ⟨hfz92_0, hfz92_1, hfz92_2, hfz92_3, hfz92_4, hfz92_5, hfz92_6⟩ := zn7 BK249; obtain ⟨hcz93_0, hcz93_1, hcz93_2, hcz93_3, hcz93_4, hcz93_5, hcz93_6⟩ := zd7 BK244; obtain ⟨hfz93_0, hfz93_1, hfz93_2, hfz93_3, hfz93_4, hfz93_5, hfz93_6⟩ := zn7 BK244) | (go_at_call 111; (with_reducible refine (impl_dist.calls ((rd_T132 l0_2 (ji48)).f0) ((rd_T132 l0_2 x28_2).f0) t250 _ A60.out).mono ?_); rintro e w' ⟨rfl, ⟨nd, rfl⟩⟩) | (go_at_call 111; (with_reducible refine (impl_dist.calls ((rd_T132 l0_2 (ji48)).f1) ((rd_T132 l0_2 x28_2).f1) t251 _ A69.out).mono ?_); rintro e w' ⟨rfl, ⟨nd, rfl⟩⟩))
        go_ret
        exact ⟨by first | rfl | (simp [errW_none, errW_some] <;> rfl) | (simp only [← hji48]; first | rfl | (simp [errW_none, errW_some] <;> rfl)) | (simp [*, errW_none, errW_some] <;> rfl), zs3 HB GE239 GE244 GE249⟩
       rw [if_neg c86] at H
       have c86b0 : decide (((rd_T132 l0_2 (ji48)).f3) < ((rd_T132 l0_2 x28_2).f2)) = false := decide_eq_false c86
       clear c86
       have H' := zA H
       clear H
       have hnb94 := NB239_244.out
       have hnc94 := NB244_239.out
       obtain ⟨hcz95_0, hcz95_1, hcz95_2, hcz95_3, hcz95_4⟩ := zd5 BK239
       obtain ⟨hfz95_0, hfz95_1, hfz95_2, hfz95_3, hfz95_4⟩ := zn5 BK239
       have p248 : 0 ≤ ((ji48) : Int) := za
       have q248 : (ji48) < (l0_2.length : Int) := za
       obtain ⟨ad248, e248, hx248_0, hx248_1, hx248_2, hx248_3, hx248_4, hx248_5, hx248_6⟩ := at_T132 HR0_2.out (ji48) p248 q248
       obtain rfl : ad243 = ad248 := (by injection e248)
       replace hx248_0 := zx HB hx248_0
       replace hx248_1 := zx HB hx248_1
       replace hx248_2 := zx HB hx248_2
       replace hx248_3 := zx HB hx248_3
       replace hx248_4 := zx HB hx248_4
       replace hx248_5 := zx HB hx248_5
       replace hx248_6 := zx HB hx248_6
       replace p248 := eq_true p248
       replace q248 := eq_true q248
       go_wp2_with (first | ((with_reducible refine gate_dst (N := 5) rfl ?_); (try (refine gate_guard (by rfl) ?_; dsimp only)); refine box_event (by rfl) (N := 5) (by rfl) (cs := #[.int .i64 0, .int .i64 0, .int .i64 0, .int .i64 0, .int .i64 0, .int .i64 0, .bool false]) (t := 132) zg ?_; intro gb249 hg w96 hbox hb; have n0_ := zb BK239 hb; have n1_ := zb BK244 hb; have n2_ := zA (below_step (zs2 HB GE239 GE244) hb); have n3_ := zA (hbox); have n4_ := zA ((by rw [hg]; exact (below_size (zs2 HB GE239 GE244)) : w.heap.size ≤ gb249)); have n5_ := zA ((by rw [hg]; exact (below_size (zs2 HB GE239 GE244)) : w.heap.size ≤ gb249)); have n6_ := zA ((by rw [hg]; exact Nat.ne_of_lt (blk_lt (g := gb239) (o := .cells #[.int .i64 a0_0, .int .i64 a0_1, .slice (some ad243) l0_2.length c0_2, .int .i64 a0_3, .int .i64 a0_4] 68 (0, 0)) (zh BK239)) : gb239 ≠ gb249)); have n7_ := zA ((by rw [hg]; exact Nat.ne_of_gt (blk_lt (g := gb239) (o := .cells #[.int .i64 a0_0, .int .i64 a0_1, .slice (some ad243) l0_2.length c0_2, .int .i64 a0_3, .int .i64 a0_4] 68 (0, 0)) (zh BK239)) : gb249 ≠ gb239)); have n8_ := zA ((by rw [hg]; exact Nat.ne_of_lt (blk_lt (g := gb244) (o := .cells #[.int .i64 ((rd_T132 l0_2 x28_2).f0), .int .i64 ((rd_T132 l0_2 x28_2).f1), .int .i64 ((rd_T132 l0_2 x28_2).f2), .int .i64 ((rd_T132 l0_2 x28_2).f3), .int .i64 ((rd_T132 l0_2 x28_2).f4), .int .i64 ((rd_T132 l0_2 x28_2).f5), .bool ((rd_T132 l0_2 x28_2).f6)] 132 (0, 0)) (zh BK244)) : gb244 ≠ gb249)); have n9_ := zA ((by rw [hg]; exact Nat.ne_of_gt (blk_lt (g := gb244) (o := .cells #[.int .i64 ((rd_T132 l0_2 x28_2).f0), .int .i64 ((rd_T132 l0_2 x28_2).f1), .int .i64 ((rd_T132 l0_2 x28_2).f2), .int .i64 ((rd_T132 l0_2 x28_2).f3), .int .i64 ((rd_T132 l0_2 x28_2).f4), .int .i64 ((rd_T132 l0_2 x28_2).f5), .bool ((rd_T132 l0_2 x28_2).f6)] 132 (0, 0)) (zh BK244)) : gb249 ≠ gb244)); clear BK239; clear BK244; clear HB; have BK239 := n0_; have BK244 := n1_; have HB := n2_; have BK249 := n3_; have GW249 := n4_; have GE249 := n5_; have NB239_249 := n6_; have NB249_239 := n7_; have NB244_249 := n8_; have NB249_244 := n9_; clear n0_ n1_ n2_ n3_ n4_ n5_ n6_ n7_ n8_ n9_; clear hb hbox hg; have hnb97 := NB249_239.out; have hnc97 := NB239_249.out; have hnb98 := NB249_244.out; have hnc98 := NB244_249.out; obtain ⟨hcz99_0, hcz99_1, hcz99_2, hcz99_3, hcz99_4, hcz99_5, hcz99_6⟩ := zd7 BK249; obtain ⟨hfz99_0, hfz99_1, hfz99_2, hfz99_3, hfz99_4, hfz99_5, hfz99_6⟩ := zn7 BK249; obtain ⟨hcz100_0, hcz100_1, hcz100_2, hcz100_3, hcz100_4, hcz100_5, hcz100_6⟩ := zd7 BK244; obtain ⟨hfz100_0, hfz100_1, hfz100_2, hfz100_3, hfz100_4, hfz100_5, hfz100_6⟩ := zn7 BK244) | (go_at_call 111; (with_reducible refine (impl_dist.calls ((rd_T132 l0_2 (ji48)).f0) ((rd_T132 l0_2 x28_2).f0) t250 _ A60.out).mono ?_); rintro e w' ⟨rfl, ⟨nd, rfl⟩⟩) | (go_at_call 111; (with_reducible refine (impl_dist.calls ((rd_T132 l0_2 (ji48)).f1) ((rd_T132 l0_2 x28_2).f1) t251 _ A69.out).mono ?_); rintro e w' ⟨rfl, ⟨nd, rfl⟩⟩))
       go_roundg kj21
       case measure => have := HJ1.out; have := HK2.out; have := HJ21.out; omega
       case rel => exact ⟨(wrap64 (x28_2 + 1)), zi, H', ⟨by have := HJ1.out; have := HK2.out; have := HJ21.out; omega⟩, ⟨by (with_reducible repeat (first | refine blk_drewN ?_ _ | refine blk_drew ?_ | refine blk_alloc ?_ _)); refine blk_far ?_ NB239_249.out _; (with_reducible repeat (first | refine blk_drewN ?_ _ | refine blk_drew ?_ | refine blk_alloc ?_ _)); refine blk_far ?_ NB239_249.out _; (with_reducible repeat (first | refine blk_drewN ?_ _ | refine blk_drew ?_ | refine blk_alloc ?_ _)); refine blk_far ?_ NB239_249.out _; (with_reducible repeat (first | refine blk_drewN ?_ _ | refine blk_drew ?_ | refine blk_alloc ?_ _)); refine blk_far ?_ NB239_249.out _; (with_reducible repeat (first | refine blk_drewN ?_ _ | refine blk_drew ?_ | refine blk_alloc ?_ _)); refine blk_far ?_ NB239_249.out _; (with_reducible repeat (first | refine blk_drewN ?_ _ | refine blk_drew ?_ | refine blk_alloc ?_ _)); refine blk_far ?_ NB239_249.out _; (with_reducible repeat (first | refine blk_drewN ?_ _ | refine blk_drew ?_ | refine blk_alloc ?_ _)); refine blk_far ?_ NB239_249.out _; (with_reducible repeat (first | refine blk_drewN ?_ _ | refine blk_drew ?_ | refine blk_alloc ?_ _)); exact BK239.out⟩, ⟨zs3 HB GE239 GE244 GE249⟩⟩
end Go.Proofs.Ytbmplfpnhjhoiaa.QFnExactFlyTube
