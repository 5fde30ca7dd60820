/- The walk of what the law FnExactFlyGo reaches: laid by a program of this session (ownprint.py). -/
import Derived.Test.YtidenmcoilmbcaaQFnExactFlyGox0
import Derived.Test.YtidenmcoilmbcaaQFnExactFlyGox10
import Derived.Test.YtidenmcoilmbcaaQFnExactFlyGox11
import Derived.Test.YtidenmcoilmbcaaQFnExactFlyGox12
namespace Go.Proofs.Ytidenmcoilmbcaa.QFnExactFlyGo
open Go.RowKit Go.Proofs.YtidenmcoilmbcaaW.PrintWords Go.Proofs.YtidenmcoilmbcaaW.PrintLast Go.Proofs.YtidenmcoilmbcaaW.PrintMore Go.Proofs.Ytidenmcoilmbcaa.Z
attribute [local go_sem] max2_int min2_int max_two min_two max_three min_three max_four min_four zdn   -- for this text's walks alone
set_option linter.unusedVariables false
set_option linter.unusedSimpArgs false
mutual
def impl_FlyLawful.j0 : Nat → List Int → Bool → Int → Int → List (S88) → Int → Int → Option (Bool)
 | 0, _, _, _, _, _, _, _ => none
 | k + 1, x1, x21, x342000, x342001, x342002, x342003, x342004 => if x21 = true then (some false) else (impl_FlyLawful.l0 k x1 x1 (x1.length : Int) 0 x342000 x342001 x342002 x342003 x342004)
def impl_FlyLawful.l0 : Nat → List Int → List Int → Int → Int → Int → Int → List (S88) → Int → Int → Option (Bool)
 | 0, _, _, _, _, _, _, _, _, _ => none
 | k + 1, x1, x22, x23, x24, x342000, x342001, x342002, x342003, x342004 => if x24 < x23 then (if 0 ≤ x24 then (if x24 < (x22.length : Int) then ((impl_FlyPath_bound.f x342000 x342001 x342002 x342003 x342004 x24).bind fun bt344 => ((impl_within.f (rd x22 x24) bt344.1 bt344.2).bind fun t346 => (if t346 = true then (if x24 > 0 then (if 0 ≤ (wrap64 (x24 - 1)) then (if (wrap64 (x24 - 1)) < (x1.length : Int) then (if (rd x22 x24) < (wrap64 ((rd x1 (wrap64 (x24 - 1))) + x342000)) then (some false) else (if (rd x22 x24) > (wrap64 ((rd x1 (wrap64 (x24 - 1))) + x342001)) then (if (wrap64 (x24 - 1)) < (x342002.length : Int) then (if ((rd_T88 x342002 (wrap64 (x24 - 1))).f6 = true) then (impl_FlyLawful.l0 k x1 x22 x23 (wrap64 (x24 + 1)) x342000 x342001 x342002 x342003 x342004) else (some false)) else (none)) else (impl_FlyLawful.l0 k x1 x22 x23 (wrap64 (x24 + 1)) x342000 x342001 x342002 x342003 x342004))) else (none)) else (none)) else (impl_FlyLawful.l0 k x1 x22 x23 (wrap64 (x24 + 1)) x342000 x342001 x342002 x342003 x342004)) else (some false)))) else (none)) else (none)) else (some true)
end
def impl_FlyLawful.f (k : Nat) (a0_0 : Int) (a0_1 : Int) (l0_2 : List (S88)) (a0_3 : Int) (a0_4 : Int) (l1 : List Int) : Option (Bool) := (impl_FlyPathOk.f k a0_0 a0_1 l0_2 a0_3 a0_4).bind fun t342 => (if t342 = true then (impl_FlyLawful.j0 k l1 ((l1.length : Int) != (wrap64 ((l0_2.length : Int) + 1))) a0_0 a0_1 l0_2 a0_3 a0_4) else (impl_FlyLawful.j0 k l1 true a0_0 a0_1 l0_2 a0_3 a0_4))
set_option maxHeartbeats 8000000 in
set_option maxRecDepth 100000 in
theorem impl_FlyLawful.calls (k : Nat) (a0_0 : Int) (a0_1 : Int) (A0_2 : Option Addr) (c0_2 : Nat) (l0_2 : List (S88)) (a0_3 : Int) (a0_4 : Int) (A1 : Option Addr) (c1 : Nat) (l1 : List Int) (r : Bool) (w : World) (hr0_2 : Kd.C k88 w A0_2 l0_2.length l0_2) (hc0_2 : l0_2.length ≤ c0_2) (hr1 : Kd.C (Kd.int .i64) w A1 l1.length l1) (hc1 : l1.length ≤ c1) (h : impl_FlyLawful.f k a0_0 a0_1 l0_2 a0_3 a0_4 l1 = some r) :
 Calls Try.prog 28 #[.agg #[.int .i64 a0_0, .int .i64 a0_1, .slice A0_2 l0_2.length c0_2, .int .i64 a0_3, .int .i64 a0_4], .slice A1 l1.length c1] w fun e w' => e = .returned (.bool r) ∧ Below w.heap.size w w' := by
 have hu34 := Try.underlying34
 have HR0_2 := zA hr0_2
 have HC0_2 := zA hc0_2
 clear hr0_2 hc0_2
 have HR1 := zA hr1
 have HC1 := zA hc1
 clear hr1 hc1
 have HB := zA (Below.refl w.heap.size w)
 have H : ((impl_FlyPathOk.f k a0_0 a0_1 l0_2 a0_3 a0_4).bind fun t342 => (if t342 = true then (impl_FlyLawful.j0 k l1 ((l1.length : Int) != (wrap64 ((l0_2.length : Int) + 1))) a0_0 a0_1 l0_2 a0_3 a0_4) else (impl_FlyLawful.j0 k l1 true a0_0 a0_1 l0_2 a0_3 a0_4))) = some r := h
 clear h
 have HC3 := zA H
 clear H
 go_enter Try.func28, Try.ntmps28
 go_upto_region 1 with (first | ((with_reducible refine gate_dst (N := 2) rfl ?_); (try (refine gate_guard (by rfl) ?_; dsimp only)); refine zbx 2 #[.int .i64 a0_0, .int .i64 a0_1, .slice A0_2 l0_2.length c0_2, .int .i64 a0_3, .int .i64 a0_4] 34 ?_; intro gb341 hg w4 hbox hb; have BK341 := zA hbox; have GW341 := zgs hg (zs0 HB); have GE341 := zgs hg (zs0 HB); replace HB := zE (zs0 HB) hb; clear hb hbox hg))
 (try simp only [Act.put, List.setIfInBounds_toArray, List.set_cons_zero, List.set_cons_succ])
 go_cut [21] (fun v21 wc => ∃ (kq : Nat) (x21_2 : Bool), v21 = .bool x21_2 ∧ Aside0 (impl_FlyLawful.j0 kq l1 x21_2 a0_0 a0_1 l0_2 a0_3 a0_4 = some r) ∧ Aside0 (kq ≤ k) ∧ Aside0 (wc.heap[gb341]? = some (.cells #[.int .i64 a0_0, .int .i64 a0_1, (.slice A0_2 l0_2.length c0_2), .int .i64 a0_3, .int .i64 a0_4] 34 (0, 0))) ∧ Aside0 (Below w.heap.size w wc))
 case first =>
  have H := HC3.out
  clear HC3
  replace H := zbd H; obtain ⟨t342, A5, H⟩ := H
  by_cases c6 : t342 = true
  rotate_left
  ·replace c6 := Bool.eq_false_iff.mpr c6
   subst c6
   have H1 : (impl_FlyLawful.j0 k l1 true a0_0 a0_1 l0_2 a0_3 a0_4) = some r := by rw [if_neg (show ¬ (false = true) by decide)] at H; exact H
   clear H
   have H := H1
   clear H1
   have H' := zA H
   clear H
   obtain ⟨hcz10_0, hcz10_1, hcz10_2, hcz10_3, hcz10_4⟩ := zd5 BK341
   obtain ⟨hfz10_0, hfz10_1, hfz10_2, hfz10_3, hfz10_4⟩ := zn5 BK341
   go_wp2_with (first | ((with_reducible refine gate_callee (f := 33) rfl ?_); refine zgl (N := some 11) Try.func33 #[.agg #[.int .i64 a0_0, .int .i64 a0_1, .slice A0_2 l0_2.length c0_2, .int .i64 a0_3, .int .i64 a0_4]] ?_; (with_reducible refine (impl_FlyPathOk.calls k a0_0 a0_1 _ _ l0_2 a0_3 a0_4 false _ ?side1 ?side2 A5.out).mono ?_); (case side1 => exact zC HR0_2 HB); (case side2 => exact HC0_2.out); rintro e w11 ⟨rfl, hb⟩; refine ⟨_, rfl, ?_⟩; replace BK341 := zb BK341 hb; replace HB := zE (zs1 HB GE341) hb; (try clear hb); (try clear hb2); (try clear hk); (try clear hi)))
   go_meet
   case rel => exact ⟨_, (true), zi, H', ⟨by first | omega | exact Nat.le_refl _⟩, ⟨zh BK341⟩, ⟨zs1 HB GE341⟩⟩
  subst c6
  have H1 : (impl_FlyLawful.j0 k l1 ((l1.length : Int) != (wrap64 ((l0_2.length : Int) + 1))) a0_0 a0_1 l0_2 a0_3 a0_4) = some r := by rw [if_pos rfl] at H; exact H
  clear H
  have H := H1
  clear H1
  have H' := zA H
  clear H
  obtain ⟨hcz7_0, hcz7_1, hcz7_2, hcz7_3, hcz7_4⟩ := zd5 BK341
  obtain ⟨hfz7_0, hfz7_1, hfz7_2, hfz7_3, hfz7_4⟩ := zn5 BK341
  go_wp2_with (first | ((with_reducible refine gate_callee (f := 33) rfl ?_); refine zgl (N := some 11) Try.func33 #[.agg #[.int .i64 a0_0, .int .i64 a0_1, .slice A0_2 l0_2.length c0_2, .int .i64 a0_3, .int .i64 a0_4]] ?_; (with_reducible refine (impl_FlyPathOk.calls k a0_0 a0_1 _ _ l0_2 a0_3 a0_4 true _ ?side1 ?side2 A5.out).mono ?_); (case side1 => exact zC HR0_2 HB); (case side2 => exact HC0_2.out); rintro e w8 ⟨rfl, hb⟩; refine ⟨_, rfl, ?_⟩; replace BK341 := zb BK341 hb; replace HB := zE (zs1 HB GE341) hb; (try clear hb); (try clear hb2); (try clear hk); (try clear hi); obtain ⟨hcz9_0, hcz9_1, hcz9_2, hcz9_3, hcz9_4⟩ := zd5 BK341; obtain ⟨hfz9_0, hfz9_1, hfz9_2, hfz9_3, hfz9_4⟩ := zn5 BK341))
  go_meet
  case rel => exact ⟨_, (((l1.length : Int) != (wrap64 ((l0_2.length : Int) + 1)))), zi, H', ⟨by first | omega | exact Nat.le_refl _⟩, ⟨zh BK341⟩, ⟨zs1 HB GE341⟩⟩
 case rest =>
  clear HC3
  try clear c1
  try clear c2
  try clear p2
  try clear c3
  try clear c6
  try clear p6
  try clear hcz10_0 hcz10_1 hcz10_2 hcz10_3 hcz10_4
  try clear hcz7_0 hcz7_1 hcz7_2 hcz7_3 hcz7_4
  try clear hcz9_0 hcz9_1 hcz9_2 hcz9_3 hcz9_4
  try clear hfz10_0 hfz10_1 hfz10_2 hfz10_3 hfz10_4
  try clear hfz7_0 hfz7_1 hfz7_2 hfz7_3 hfz7_4
  try clear hfz9_0 hfz9_1 hfz9_2 hfz9_3 hfz9_4
  obtain ⟨kq, x21_2, rfl, HA, HJ2, BK341, HB⟩ := hcut
  cases kq with
  | zero => exact absurd HA.out (by simp [impl_FlyLawful.j0])
  | succ kj2 =>
   have H := HA.out
   clear HA
   simp only [impl_FlyLawful.j0] at H
   by_cases c12 : x21_2 = true
   ·subst c12
    have H1 : (some false) = some r := by rw [if_pos rfl] at H; exact H
    clear H
    have H := H1
    clear H1
    obtain rfl := Option.some.inj H
    go_wp2
    go_ret
    exact ⟨ze, zs1 HB GE341⟩
   replace c12 := Bool.eq_false_iff.mpr c12
   subst c12
   have H1 : (impl_FlyLawful.l0 kj2 l1 l1 (l1.length : Int) 0 a0_0 a0_1 l0_2 a0_3 a0_4) = some r := by rw [if_neg (show ¬ (false = true) by decide)] at H; exact H
   clear H
   have H := H1
   clear H1
   have H' := zA H
   clear H
   go_wp2
   go_loopg [24] kj2 (fun kq v24 w' => ∃ (x24_2 : Int), v24 = .int .i64 x24_2 ∧ Aside0 (impl_FlyLawful.l0 kq l1 l1 (l1.length : Int) x24_2 a0_0 a0_1 l0_2 a0_3 a0_4 = some r) ∧ Aside0 (kq ≤ kj2) ∧ Aside0 (w'.heap[gb341]? = some (.cells #[.int .i64 a0_0, .int .i64 a0_1, (.slice A0_2 l0_2.length c0_2), .int .i64 a0_3, .int .i64 a0_4] 34 (0, 0))) ∧ Aside0 (Below w.heap.size w w'))
   case atStart => exact ⟨(0), zi, H', ⟨Nat.le_refl _⟩, ⟨zh BK341⟩, ⟨zs1 HB GE341⟩⟩
   case round =>
    clear H'
    try clear c1
    try clear c2
    try clear p2
    try clear c3
    try clear c6
    try clear p6
    try clear c12
    try clear hcz10_0 hcz10_1 hcz10_2 hcz10_3 hcz10_4
    try clear hcz7_0 hcz7_1 hcz7_2 hcz7_3 hcz7_4
    try clear hcz9_0 hcz9_1 hcz9_2 hcz9_3 hcz9_4
    try clear hfz10_0 hfz10_1 hfz10_2 hfz10_3 hfz10_4
    try clear hfz7_0 hfz7_1 hfz7_2 hfz7_3 hfz7_4
    try clear hfz9_0 hfz9_1 hfz9_2 hfz9_3 hfz9_4
    try clear p2
    try clear p6
    obtain ⟨x24_2, rfl, HA, HK2, BK341, HB⟩ := hrel
    cases gk with
    | zero => exact absurd HA.out (by simp [impl_FlyLawful.l0])
    | succ k2 =>
     have H := HA.out
     clear HA
     simp only [impl_FlyLawful.l0] at H
     by_cases c13 : x24_2 < (l1.length : Int)
     rotate_left
     ·rw [if_neg c13] at H
      have c13b0 : decide (x24_2 < (l1.length : Int)) = false := decide_eq_false c13
      clear c13
      obtain rfl := Option.some.inj H
      go_wp2
      go_ret
      exact ⟨ze, zs1 HB GE341⟩
     rw [if_pos c13] at H
     have c13b0 : decide (x24_2 < (l1.length : Int)) = true := decide_eq_true c13
     clear c13
     by_cases c14 : 0 ≤ x24_2
     rotate_left
     ·rw [if_neg c14] at H
      exact absurd H (by simp)
     rw [if_pos c14] at H
     have c14b0 : decide (0 ≤ x24_2) = true := decide_eq_true c14
     clear c14
     by_cases c15 : x24_2 < (l1.length : Int)
     rotate_left
     ·rw [if_neg c15] at H
      exact absurd H (by simp)
     rw [if_pos c15] at H
     have c15b0 : decide (x24_2 < (l1.length : Int)) = true := decide_eq_true c15
     clear c15
     replace H := Option.bind_eq_some_iff.mp H
     obtain ⟨⟨t344, t345⟩, A160, H⟩ := H
     replace H : ((impl_within.f (rd l1 x24_2) t344 t345).bind fun t346 => (if t346 = true then (if x24_2 > 0 then (if 0 ≤ (wrap64 (x24_2 - 1)) then (if (wrap64 (x24_2 - 1)) < (l1.length : Int) then (if (rd l1 x24_2) < (wrap64 ((rd l1 (wrap64 (x24_2 - 1))) + a0_0)) then (some false) else (if (rd l1 x24_2) > (wrap64 ((rd l1 (wrap64 (x24_2 - 1))) + a0_1)) then (if (wrap64 (x24_2 - 1)) < (l0_2.length : Int) then (if ((rd_T88 l0_2 (wrap64 (x24_2 - 1))).f6 = true) then (impl_FlyLawful.l0 k2 l1 l1 (l1.length : Int) (wrap64 (x24_2 + 1)) a0_0 a0_1 l0_2 a0_3 a0_4) else (some false)) else (none)) else (impl_FlyLawful.l0 k2 l1 l1 (l1.length : Int) (wrap64 (x24_2 + 1)) a0_0 a0_1 l0_2 a0_3 a0_4))) else (none)) else (none)) else (impl_FlyLawful.l0 k2 l1 l1 (l1.length : Int) (wrap64 (x24_2 + 1)) a0_0 a0_1 l0_2 a0_3 a0_4)) else (some false))) = some r := H
     have A16 := zA A160
     clear A160
     replace H := zbd H; obtain ⟨t346, A17, H⟩ := H
     by_cases c18 : t346 = true
     rotate_left
     ·replace c18 := Bool.eq_false_iff.mpr c18
      subst c18
      have H1 : (some false) = some r := by rw [if_neg (show ¬ (false = true) by decide)] at H; exact H
      clear H
      have H := H1
      clear H1
      obtain rfl := Option.some.inj H
      have p343 : 0 ≤ (x24_2 : Int) := za
      have q343 : x24_2 < (l1.length : Int) := za
      obtain ⟨ad343, e343, hx343_0⟩ := Kd.at_int HR1.out x24_2 p343 q343
      cases e343
      replace hx343_0 := zx HB hx343_0
      replace p343 := eq_true p343
      replace q343 := eq_true q343
      obtain ⟨hcz42_0, hcz42_1, hcz42_2, hcz42_3, hcz42_4⟩ := zd5 BK341
      obtain ⟨hfz42_0, hfz42_1, hfz42_2, hfz42_3, hfz42_4⟩ := zn5 BK341
      go_wp2_with (first | ((with_reducible refine gate_callee (f := 67) rfl ?_); refine zgl (N := some 32) Try.func67 #[.agg #[.int .i64 a0_0, .int .i64 a0_1, .slice A0_2 l0_2.length c0_2, .int .i64 a0_3, .int .i64 a0_4], .int .i64 x24_2] ?_; (with_reducible refine (impl_FlyPath_bound.calls a0_0 a0_1 _ _ l0_2 a0_3 a0_4 x24_2 t344 t345 _ ?side1 ?side2 A16.out).mono ?_); (case side1 => exact zC HR0_2 HB); (case side2 => exact HC0_2.out); rintro e w43 ⟨rfl, hb⟩; refine ⟨_, rfl, ?_⟩; replace BK341 := zb BK341 hb; replace HB := zE (zs1 HB GE341) hb; (try clear hb); (try clear hb2); (try clear hk); (try clear hi)) | ((with_reducible refine gate_callee (f := 68) rfl ?_); refine zgl (N := some 38) Try.func68 #[.int .i64 (rd l1 x24_2), .int .i64 t344, .int .i64 t345] ?_; (with_reducible refine (impl_within.calls (rd l1 x24_2) t344 t345 false _ A17.out).mono ?_); rintro e w' ⟨rfl, ⟨nd, rfl⟩⟩; refine ⟨_, rfl, ?_⟩))
      go_ret
      exact ⟨ze, zs1 HB GE341⟩
     subst c18
     have H1 : (if x24_2 > 0 then (if 0 ≤ (wrap64 (x24_2 - 1)) then (if (wrap64 (x24_2 - 1)) < (l1.length : Int) then (if (rd l1 x24_2) < (wrap64 ((rd l1 (wrap64 (x24_2 - 1))) + a0_0)) then (some false) else (if (rd l1 x24_2) > (wrap64 ((rd l1 (wrap64 (x24_2 - 1))) + a0_1)) then (if (wrap64 (x24_2 - 1)) < (l0_2.length : Int) then (if ((rd_T88 l0_2 (wrap64 (x24_2 - 1))).f6 = true) then (impl_FlyLawful.l0 k2 l1 l1 (l1.length : Int) (wrap64 (x24_2 + 1)) a0_0 a0_1 l0_2 a0_3 a0_4) else (some false)) else (none)) else (impl_FlyLawful.l0 k2 l1 l1 (l1.length : Int) (wrap64 (x24_2 + 1)) a0_0 a0_1 l0_2 a0_3 a0_4))) else (none)) else (none)) else (impl_FlyLawful.l0 k2 l1 l1 (l1.length : Int) (wrap64 (x24_2 + 1)) a0_0 a0_1 l0_2 a0_3 a0_4)) = some r := by rw [if_pos rfl] at H; exact H
     clear H
     have H := H1
     clear H1
     by_cases c19 : x24_2 > 0
     rotate_left
     ·rw [if_neg c19] at H
      have c19b0 : decide (0 < x24_2) = false := decide_eq_false c19
      clear c19
      have H' := zA H
      clear H
      have p343 : 0 ≤ (x24_2 : Int) := za
      have q343 : x24_2 < (l1.length : Int) := za
      obtain ⟨ad343, e343, hx343_0⟩ := Kd.at_int HR1.out x24_2 p343 q343
      cases e343
      replace hx343_0 := zx HB hx343_0
      replace p343 := eq_true p343
      replace q343 := eq_true q343
      obtain ⟨hcz40_0, hcz40_1, hcz40_2, hcz40_3, hcz40_4⟩ := zd5 BK341
      obtain ⟨hfz40_0, hfz40_1, hfz40_2, hfz40_3, hfz40_4⟩ := zn5 BK341
      go_wp2_with (first | ((with_reducible refine gate_callee (f := 67) rfl ?_); refine zgl (N := some 32) Try.func67 #[.agg #[.int .i64 a0_0, .int .i64 a0_1, .slice A0_2 l0_2.length c0_2, .int .i64 a0_3, .int .i64 a0_4], .int .i64 x24_2] ?_; (with_reducible refine (impl_FlyPath_bound.calls a0_0 a0_1 _ _ l0_2 a0_3 a0_4 x24_2 t344 t345 _ ?side1 ?side2 A16.out).mono ?_); (case side1 => exact zC HR0_2 HB); (case side2 => exact HC0_2.out); rintro e w41 ⟨rfl, hb⟩; refine ⟨_, rfl, ?_⟩; replace BK341 := zb BK341 hb; replace HB := zE (zs1 HB GE341) hb; (try clear hb); (try clear hb2); (try clear hk); (try clear hi)) | ((with_reducible refine gate_callee (f := 68) rfl ?_); refine zgl (N := some 38) Try.func68 #[.int .i64 (rd l1 x24_2), .int .i64 t344, .int .i64 t345] ?_; (with_reducible refine (impl_within.calls (rd l1 x24_2) t344 t345 true _ A17.out).mono ?_); rintro e w' ⟨rfl, ⟨nd, rfl⟩⟩; refine ⟨_, rfl, ?_⟩))
      go_roundg k2
      case measure => have := HJ2.out; have := HK2.out; omega
      case rel => exact ⟨(wrap64 (x24_2 + 1)), zi, H', ⟨by have := HJ2.out; have := HK2.out; omega⟩, ⟨zh BK341⟩, ⟨zs1 HB GE341⟩⟩
     rw [if_pos c19] at H
     have c19b0 : decide (0 < x24_2) = true := decide_eq_true c19
     clear c19
     obtain ⟨ji20, hji20⟩ : ∃ j_ : Int, (wrap64 (x24_2 - 1)) = j_ := ⟨_, rfl⟩
     first | rw [hji20] at H | simp only [hji20] at H
     (try rw [hji20] at A16)
     (try rw [hji20] at A17)
     have hji20w : (IntKind.i64.wrap (x24_2 - 1)) = ji20 := (i64_w _).trans hji20
     by_cases c21 : 0 ≤ (ji20)
     rotate_left
     ·rw [if_neg c21] at H
      exact absurd H (by simp)
     rw [if_pos c21] at H
     have c21b0 : decide (0 ≤ (ji20)) = true := decide_eq_true c21
     clear c21
     by_cases c22 : (ji20) < (l1.length : Int)
     rotate_left
     ·rw [if_neg c22] at H
      exact absurd H (by simp)
     rw [if_pos c22] at H
     have c22b0 : decide ((ji20) < (l1.length : Int)) = true := decide_eq_true c22
     clear c22
     by_cases c23 : (rd l1 x24_2) < (wrap64 ((rd l1 (ji20)) + a0_0))
     ·rw [if_pos c23] at H
      have c23b0 : decide ((rd l1 x24_2) < (wrap64 ((rd l1 (ji20)) + a0_0))) = true := decide_eq_true c23
      clear c23
      obtain rfl := Option.some.inj H
      have p343 : 0 ≤ (x24_2 : Int) := za
      have q343 : x24_2 < (l1.length : Int) := za
      obtain ⟨ad343, e343, hx343_0⟩ := Kd.at_int HR1.out x24_2 p343 q343
      cases e343
      replace hx343_0 := zx HB hx343_0
      replace p343 := eq_true p343
      replace q343 := eq_true q343
      obtain ⟨hcz24_0, hcz24_1, hcz24_2, hcz24_3, hcz24_4⟩ := zd5 BK341
      obtain ⟨hfz24_0, hfz24_1, hfz24_2, hfz24_3, hfz24_4⟩ := zn5 BK341
      go_wp2_with (first | ((with_reducible refine gate_callee (f := 67) rfl ?_); refine zgl (N := some 32) Try.func67 #[.agg #[.int .i64 a0_0, .int .i64 a0_1, .slice A0_2 l0_2.length c0_2, .int .i64 a0_3, .int .i64 a0_4], .int .i64 x24_2] ?_; (with_reducible refine (impl_FlyPath_bound.calls a0_0 a0_1 _ _ l0_2 a0_3 a0_4 x24_2 t344 t345 _ ?side1 ?side2 A16.out).mono ?_); (case side1 => exact zC HR0_2 HB); (case side2 => exact HC0_2.out); rintro e w25 ⟨rfl, hb⟩; refine ⟨_, rfl, ?_⟩; replace BK341 := zb BK341 hb; replace HB := zE (zs1 HB GE341) hb; (try clear hb); (try clear hb2); (try clear hk); (try clear hi)) | ((with_reducible refine gate_callee (f := 68) rfl ?_); refine zgl (N := some 38) Try.func68 #[.int .i64 (rd l1 x24_2), .int .i64 t344, .int .i64 t345] ?_; (with_reducible refine (impl_within.calls (rd l1 x24_2) t344 t345 true _ A17.out).mono ?_); rintro e w' ⟨rfl, ⟨nd, rfl⟩⟩; refine ⟨_, rfl, ?_⟩; have p347 : 0 ≤ ((ji20) : Int) := za; have q347 : (ji20) < (l1.length : Int) := za; obtain ⟨ad347, e347, hx347_0⟩ := Kd.at_int HR1.out (ji20) p347 q347; obtain rfl : ad343 = ad347 := (by injection e347); replace hx347_0 := zx HB hx347_0; replace p347 := eq_true p347; replace q347 := eq_true q347; obtain ⟨hcz26_0, hcz26_1, hcz26_2, hcz26_3, hcz26_4⟩ := zd5 BK341; obtain ⟨hfz26_0, hfz26_1, hfz26_2, hfz26_3, hfz26_4⟩ := zn5 BK341))
      go_ret
      exact ⟨by first | rfl | (simp [errW_none, errW_some] <;> rfl) | (simp only [← hji20]; first | rfl | (simp [errW_none, errW_some] <;> rfl)) | (simp [*, errW_none, errW_some] <;> rfl), zs1 HB GE341⟩
     rw [if_neg c23] at H
     have c23b0 : decide ((rd l1 x24_2) < (wrap64 ((rd l1 (ji20)) + a0_0))) = false := decide_eq_false c23
     clear c23
     by_cases c27 : (rd l1 x24_2) > (wrap64 ((rd l1 (ji20)) + a0_1))
     rotate_left
     ·rw [if_neg c27] at H
      have c27b0 : decide ((wrap64 ((rd l1 (ji20)) + a0_1)) < (rd l1 x24_2)) = false := decide_eq_false c27
      clear c27
      have H' := zA H
      clear H
      have p343 : 0 ≤ (x24_2 : Int) := za
      have q343 : x24_2 < (l1.length : Int) := za
      obtain ⟨ad343, e343, hx343_0⟩ := Kd.at_int HR1.out x24_2 p343 q343
      cases e343
      replace hx343_0 := zx HB hx343_0
      replace p343 := eq_true p343
      replace q343 := eq_true q343
      obtain ⟨hcz37_0, hcz37_1, hcz37_2, hcz37_3, hcz37_4⟩ := zd5 BK341
      obtain ⟨hfz37_0, hfz37_1, hfz37_2, hfz37_3, hfz37_4⟩ := zn5 BK341
      go_wp2_with (first | ((with_reducible refine gate_callee (f := 67) rfl ?_); refine zgl (N := some 32) Try.func67 #[.agg #[.int .i64 a0_0, .int .i64 a0_1, .slice A0_2 l0_2.length c0_2, .int .i64 a0_3, .int .i64 a0_4], .int .i64 x24_2] ?_; (with_reducible refine (impl_FlyPath_bound.calls a0_0 a0_1 _ _ l0_2 a0_3 a0_4 x24_2 t344 t345 _ ?side1 ?side2 A16.out).mono ?_); (case side1 => exact zC HR0_2 HB); (case side2 => exact HC0_2.out); rintro e w38 ⟨rfl, hb⟩; refine ⟨_, rfl, ?_⟩; replace BK341 := zb BK341 hb; replace HB := zE (zs1 HB GE341) hb; (try clear hb); (try clear hb2); (try clear hk); (try clear hi)) | ((with_reducible refine gate_callee (f := 68) rfl ?_); refine zgl (N := some 38) Try.func68 #[.int .i64 (rd l1 x24_2), .int .i64 t344, .int .i64 t345] ?_; (with_reducible refine (impl_within.calls (rd l1 x24_2) t344 t345 true _ A17.out).mono ?_); rintro e w' ⟨rfl, ⟨nd, rfl⟩⟩; refine ⟨_, rfl, ?_⟩; have p347 : 0 ≤ ((ji20) : Int) := za; have q347 : (ji20) < (l1.length : Int) := za; obtain ⟨ad347, e347, hx347_0⟩ := Kd.at_int HR1.out (ji20) p347 q347; obtain rfl : ad343 = ad347 := (by injection e347); replace hx347_0 := zx HB hx347_0; replace p347 := eq_true p347; replace q347 := eq_true q347; obtain ⟨hcz39_0, hcz39_1, hcz39_2, hcz39_3, hcz39_4⟩ := zd5 BK341; obtain ⟨hfz39_0, hfz39_1, hfz39_2, hfz39_3, hfz39_4⟩ := zn5 BK341))
      go_roundg k2
      case measure => have := HJ2.out; have := HK2.out; omega
      case rel => exact ⟨(wrap64 (x24_2 + 1)), zi, H', ⟨by have := HJ2.out; have := HK2.out; omega⟩, ⟨zh BK341⟩, ⟨zs1 HB GE341⟩⟩
     rw [if_pos c27] at H
     have c27b0 : decide ((wrap64 ((rd l1 (ji20)) + a0_1)) < (rd l1 x24_2)) = true := decide_eq_true c27
     clear c27
     by_cases c28 : (ji20) < (l0_2.length : Int)
     rotate_left
     ·rw [if_neg c28] at H
      exact absurd H (by simp)
     rw [if_pos c28] at H
     have c28b0 : decide ((ji20) < (l0_2.length : Int)) = true := decide_eq_true c28
     clear c28
     obtain ⟨bq29, hbq29⟩ : ∃ b_ : Bool, b_ = ((rd_T88 l0_2 (ji20)).f6) := ⟨_, rfl⟩
     replace H : (if (bq29 = true) then (impl_FlyLawful.l0 k2 l1 l1 (l1.length : Int) (wrap64 (x24_2 + 1)) a0_0 a0_1 l0_2 a0_3 a0_4) else (some false)) = some r := by rw [← hbq29] at H; exact H
     have Nbq29 := zA hbq29
     clear hbq29
     by_cases c30 : (bq29 = true)
     rotate_left
     ·replace c30 := Bool.eq_false_iff.mpr c30
      subst c30
      have H1 : (some false) = some r := by rw [if_neg (show ¬ (false = true) by decide)] at H; exact H
      clear H
      have H := H1
      clear H1
      obtain rfl := Option.some.inj H
      have p343 : 0 ≤ (x24_2 : Int) := za
      have q343 : x24_2 < (l1.length : Int) := za
      obtain ⟨ad343, e343, hx343_0⟩ := Kd.at_int HR1.out x24_2 p343 q343
      cases e343
      replace hx343_0 := zx HB hx343_0
      replace p343 := eq_true p343
      replace q343 := eq_true q343
      obtain ⟨hcz34_0, hcz34_1, hcz34_2, hcz34_3, hcz34_4⟩ := zd5 BK341
      obtain ⟨hfz34_0, hfz34_1, hfz34_2, hfz34_3, hfz34_4⟩ := zn5 BK341
      go_wp2_with (first | ((with_reducible refine gate_callee (f := 67) rfl ?_); refine zgl (N := some 32) Try.func67 #[.agg #[.int .i64 a0_0, .int .i64 a0_1, .slice A0_2 l0_2.length c0_2, .int .i64 a0_3, .int .i64 a0_4], .int .i64 x24_2] ?_; (with_reducible refine (impl_FlyPath_bound.calls a0_0 a0_1 _ _ l0_2 a0_3 a0_4 x24_2 t344 t345 _ ?side1 ?side2 A16.out).mono ?_); (case side1 => exact zC HR0_2 HB); (case side2 => exact HC0_2.out); rintro e w35 ⟨rfl, hb⟩; refine ⟨_, rfl, ?_⟩; replace BK341 := zb BK341 hb; replace HB := zE (zs1 HB GE341) hb; (try clear hb); (try clear hb2); (try clear hk); (try clear hi)) | ((with_reducible refine gate_callee (f := 68) rfl ?_); refine zgl (N := some 38) Try.func68 #[.int .i64 (rd l1 x24_2), .int .i64 t344, .int .i64 t345] ?_; (with_reducible refine (impl_within.calls (rd l1 x24_2) t344 t345 true _ A17.out).mono ?_); rintro e w' ⟨rfl, ⟨nd, rfl⟩⟩; refine ⟨_, rfl, ?_⟩; have p347 : 0 ≤ ((ji20) : Int) := za; have q347 : (ji20) < (l1.length : Int) := za; obtain ⟨ad347, e347, hx347_0⟩ := Kd.at_int HR1.out (ji20) p347 q347; obtain rfl : ad343 = ad347 := (by injection e347); replace hx347_0 := zx HB hx347_0; replace p347 := eq_true p347; replace q347 := eq_true q347; obtain ⟨hcz36_0, hcz36_1, hcz36_2, hcz36_3, hcz36_4⟩ := zd5 BK341; obtain ⟨hfz36_0, hfz36_1, hfz36_2, hfz36_3, hfz36_4⟩ := zn5 BK341; have p348 : 0 ≤ ((ji20) : Int) := za; have q348 : (ji20) < (l0_2.length : Int) := za; obtain ⟨ad348, e348, hx348_0, hx348_1, hx348_2, hx348_3, hx348_4, hx348_5, hx348_6⟩ := at_T88 HR0_2.out (ji20) p348 q348; (try rw [← Nbq29.out] at hx348_6); cases e348; replace hx348_0 := zx HB hx348_0; replace hx348_1 := zx HB hx348_1; replace hx348_2 := zx HB hx348_2; replace hx348_3 := zx HB hx348_3; replace hx348_4 := zx HB hx348_4; replace hx348_5 := zx HB hx348_5; replace hx348_6 := zx HB hx348_6; replace p348 := eq_true p348; replace q348 := eq_true q348))
      go_ret
      exact ⟨by first | rfl | (simp [errW_none, errW_some] <;> rfl) | (simp only [← hji20]; first | rfl | (simp [errW_none, errW_some] <;> rfl)) | (simp [*, errW_none, errW_some] <;> rfl), zs1 HB GE341⟩
     subst c30
     have H1 : (impl_FlyLawful.l0 k2 l1 l1 (l1.length : Int) (wrap64 (x24_2 + 1)) a0_0 a0_1 l0_2 a0_3 a0_4) = some r := by rw [if_pos rfl] at H; exact H
     clear H
     have H := H1
     clear H1
     have H' := zA H
     clear H
     have p343 : 0 ≤ (x24_2 : Int) := za
     have q343 : x24_2 < (l1.length : Int) := za
     obtain ⟨ad343, e343, hx343_0⟩ := Kd.at_int HR1.out x24_2 p343 q343
     cases e343
     replace hx343_0 := zx HB hx343_0
     replace p343 := eq_true p343
     replace q343 := eq_true q343
     obtain ⟨hcz31_0, hcz31_1, hcz31_2, hcz31_3, hcz31_4⟩ := zd5 BK341
     obtain ⟨hfz31_0, hfz31_1, hfz31_2, hfz31_3, hfz31_4⟩ := zn5 BK341
     go_wp2_with (first | ((with_reducible refine gate_callee (f := 67) rfl ?_); refine zgl (N := some 32) Try.func67 #[.agg #[.int .i64 a0_0, .int .i64 a0_1, .slice A0_2 l0_2.length c0_2, .int .i64 a0_3, .int .i64 a0_4], .int .i64 x24_2] ?_; (with_reducible refine (impl_FlyPath_bound.calls a0_0 a0_1 _ _ l0_2 a0_3 a0_4 x24_2 t344 t345 _ ?side1 ?side2 A16.out).mono ?_); (case side1 => exact zC HR0_2 HB); (case side2 => exact HC0_2.out); rintro e w32 ⟨rfl, hb⟩; refine ⟨_, rfl, ?_⟩; replace BK341 := zb BK341 hb; replace HB := zE (zs1 HB GE341) hb; (try clear hb); (try clear hb2); (try clear hk); (try clear hi)) | ((with_reducible refine gate_callee (f := 68) rfl ?_); refine zgl (N := some 38) Try.func68 #[.int .i64 (rd l1 x24_2), .int .i64 t344, .int .i64 t345] ?_; (with_reducible refine (impl_within.calls (rd l1 x24_2) t344 t345 true _ A17.out).mono ?_); rintro e w' ⟨rfl, ⟨nd, rfl⟩⟩; refine ⟨_, rfl, ?_⟩; have p347 : 0 ≤ ((ji20) : Int) := za; have q347 : (ji20) < (l1.length : Int) := za; obtain ⟨ad347, e347, hx347_0⟩ := Kd.at_int HR1.out (ji20) p347 q347; obtain rfl : ad343 = ad347 := (by injection e347); replace hx347_0 := zx HB hx347_0; replace p347 := eq_true p347; replace q347 := eq_true q347; obtain ⟨hcz33_0, hcz33_1, hcz33_2, hcz33_3, hcz33_4⟩ := zd5 BK341; obtain ⟨hfz33_0, hfz33_1, hfz33_2, hfz33_3, hfz33_4⟩ := zn5 BK341; have p348 : 0 ≤ ((ji20) : Int) := za; have q348 : (ji20) < (l0_2.length : Int) := za; obtain ⟨ad348, e348, hx348_0, hx348_1, hx348_2, hx348_3, hx348_4, hx348_5, hx348_6⟩ := at_T88 HR0_2.out (ji20) p348 q348; (try rw [← Nbq29.out] at hx348_6); cases e348; replace hx348_0 := zx HB hx348_0; replace hx348_1 := zx HB hx348_1; replace hx348_2 := zx HB hx348_2; replace hx348_3 := zx HB hx348_3; replace hx348_4 := zx HB hx348_4; replace hx348_5 := zx HB hx348_5; replace hx348_6 := zx HB hx348_6; replace p348 := eq_true p348; replace q348 := eq_true q348))
     go_roundg k2
     case measure => have := HJ2.out; have := HK2.out; omega
     case rel => exact ⟨(wrap64 (x24_2 + 1)), zi, H', ⟨by have := HJ2.out; have := HK2.out; omega⟩, ⟨zh BK341⟩, ⟨zs1 HB GE341⟩⟩
end Go.Proofs.Ytidenmcoilmbcaa.QFnExactFlyGo
