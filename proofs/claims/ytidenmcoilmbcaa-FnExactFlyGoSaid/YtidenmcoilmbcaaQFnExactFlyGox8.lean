/- The walk of what the law FnExactFlyGo reaches: laid by a program of this session (ownprint.py). -/
import Derived.Test.YtidenmcoilmbcaaQFnExactFlyGox0
import Derived.Test.YtidenmcoilmbcaaQFnExactFlyGox1
import Derived.Test.YtidenmcoilmbcaaQFnExactFlyGox2
import Derived.Test.YtidenmcoilmbcaaQFnExactFlyGox3
namespace Go.Proofs.Ytidenmcoilmbcaa.QFnExactFlyGo
open Go.RowKit Go.Proofs.YtidenmcoilmbcaaW.PrintWords Go.Proofs.YtidenmcoilmbcaaW.PrintLast Go.Proofs.YtidenmcoilmbcaaW.PrintMore Go.Proofs.Ytidenmcoilmbcaa.Z
attribute [local go_sem] max2_int min2_int max_two min_two max_three min_three max_four min_four zdn   -- for this text's walks alone
set_option linter.unusedVariables false
set_option linter.unusedSimpArgs false
mutual
def spec_FlyLawful.j0 : Nat → List Int → Bool → Int → Int → List (S88) → Int → Int → Option (Bool)
 | 0, _, _, _, _, _, _, _ => none
 | k + 1, x1, x17, x213000, x213001, x213002, x213003, x213004 => if x17 = true then (some false) else (spec_FlyLawful.l0 k x1 0 x213000 x213001 x213002 x213003 x213004)
def spec_FlyLawful.l0 : Nat → List Int → Int → Int → Int → List (S88) → Int → Int → Option (Bool)
 | 0, _, _, _, _, _, _, _ => none
 | k + 1, x1, x5, x213000, x213001, x213002, x213003, x213004 => if x5 < (x1.length : Int) then (if 0 ≤ x5 then ((spec_l23Low.f x213000 x213001 x213002 x213003 x213004 x5).bind fun t215 => ((spec_l23High.f x213000 x213001 x213002 x213003 x213004 x5).bind fun t216 => ((spec_l21In.f (rd x1 x5) t215 t216).bind fun t217 => (if t217 = true then (if x5 > 0 then (if 0 ≤ (wrap64 (x5 - 1)) then (if (wrap64 (x5 - 1)) < (x1.length : Int) then ((spec_l23Most.f x213000 x213001 x213002 x213003 x213004 (wrap64 (x5 - 1))).bind fun t220 => ((spec_l21In.f (wrap64 ((rd x1 x5) - (rd x1 (wrap64 (x5 - 1))))) x213000 t220).bind fun t221 => (if t221 = true then (spec_FlyLawful.l0 k x1 (wrap64 (x5 + 1)) x213000 x213001 x213002 x213003 x213004) else (some false)))) else (none)) else (none)) else (spec_FlyLawful.l0 k x1 (wrap64 (x5 + 1)) x213000 x213001 x213002 x213003 x213004)) else (some false))))) else (none)) else (some true)
end
def spec_FlyLawful.f (k : Nat) (a0_0 : Int) (a0_1 : Int) (l0_2 : List (S88)) (a0_3 : Int) (a0_4 : Int) (l1 : List Int) : Option (Bool) := (spec_FlyPathOk.f k a0_0 a0_1 l0_2 a0_3 a0_4).bind fun t213 => (if t213 = true then (spec_FlyLawful.j0 k l1 ((l1.length : Int) != (wrap64 ((l0_2.length : Int) + 1))) a0_0 a0_1 l0_2 a0_3 a0_4) else (spec_FlyLawful.j0 k l1 true a0_0 a0_1 l0_2 a0_3 a0_4))
def spec_FlyLawful.T6 : Bool × List (List Nat × List Nat) := (true, [([], []), ([], []), ([0, 1], [0, 1]), ([2], [2]), ([], []), ([], []), ([4, 5], [4, 5]), ([], []), ([], []), ([7, 8, 6], [7, 8]), ([3, 6, 9, 9], [3, 6, 9]), ([10], [10])])
def spec_FlyLawful.B6 : List Nat := [0, 0, 3, 7, 0, 0, 48, 0, 0, 496, 1023, 2047]
theorem spec_FlyLawful.tab6 : rtab .any (opsOf Try.f34 6) = spec_FlyLawful.T6 := by kernel_rfl
theorem spec_FlyLawful.bits6 : waitsOk spec_FlyLawful.T6.2 spec_FlyLawful.B6 = true := by kernel_rfl
def spec_FlyLawful.T8 : Bool × List (List Nat × List Nat) := (true, [([], []), ([0], [0]), ([1], [1]), ([2], [2]), ([2], [2]), ([3, 4, 2], [2, 3, 4]), ([5, 2], [2, 5]), ([2], [2]), ([2], [2]), ([8, 2], [2, 8]), ([7, 9, 2], [2, 7, 9]), ([10, 2], [2, 10]), ([6, 11, 2], [2, 6, 11]), ([2], [2]), ([13, 2], [2, 13]), ([14, 2], [2, 14]), ([2], [2]), ([2], [2]), ([17, 2], [2, 17]), ([16, 18, 2, 2], [2, 16, 18]), ([12, 15, 19, 19, 2], [2, 12, 15, 19]), ([20, 2], [2, 20]), ([2, 21], [2, 21])])
def spec_FlyLawful.B8 : List Nat := [0, 1, 3, 7, 7, 31, 63, 7, 7, 263, 903, 1927, 4095, 7, 8199, 24583, 7, 7, 131079, 458759, 1048575, 2097151, 4194303]
theorem spec_FlyLawful.tab8 : rtab .any (opsOf Try.f34 8) = spec_FlyLawful.T8 := by kernel_rfl
theorem spec_FlyLawful.bits8 : waitsOk spec_FlyLawful.T8.2 spec_FlyLawful.B8 = true := by kernel_rfl
set_option maxHeartbeats 8000000 in
set_option maxRecDepth 100000 in
theorem spec_FlyLawful.calls (k : Nat) (a0_0 : Int) (a0_1 : Int) (A0_2 : Option Addr) (c0_2 : Nat) (l0_2 : List (S88)) (a0_3 : Int) (a0_4 : Int) (A1 : Option Addr) (c1 : Nat) (l1 : List Int) (r : Bool) (w : World) (hr0_2 : Kd.C k88 w A0_2 l0_2.length l0_2) (hc0_2 : l0_2.length ≤ c0_2) (hr1 : Kd.C (Kd.int .i64) w A1 l1.length l1) (hc1 : l1.length ≤ c1) (h : spec_FlyLawful.f k a0_0 a0_1 l0_2 a0_3 a0_4 l1 = some r) :
 Calls Try.prog 34 #[.agg #[.int .i64 a0_0, .int .i64 a0_1, .slice A0_2 l0_2.length c0_2, .int .i64 a0_3, .int .i64 a0_4], .slice A1 l1.length c1] w fun e w' => e = .returned (.bool r) ∧ Below w.heap.size w w' := by
 have hu34 := Try.underlying34
 have HR0_2 := zA hr0_2
 have HC0_2 := zA hc0_2
 clear hr0_2 hc0_2
 have HR1 := zA hr1
 have HC1 := zA hc1
 clear hr1 hc1
 have HB := zA (Below.refl w.heap.size w)
 have H : ((spec_FlyPathOk.f k a0_0 a0_1 l0_2 a0_3 a0_4).bind fun t213 => (if t213 = true then (spec_FlyLawful.j0 k l1 ((l1.length : Int) != (wrap64 ((l0_2.length : Int) + 1))) a0_0 a0_1 l0_2 a0_3 a0_4) else (spec_FlyLawful.j0 k l1 true a0_0 a0_1 l0_2 a0_3 a0_4))) = some r := h
 clear h
 have HC3 := zA H
 clear H
 go_enter Try.func34, Try.ntmps34
 go_upto_region 1 with (first | ((with_reducible refine gate_dst (N := 2) rfl ?_); (try (refine gate_guard (by rfl) ?_; dsimp only)); refine zbx 2 #[.int .i64 a0_0, .int .i64 a0_1, .slice A0_2 l0_2.length c0_2, .int .i64 a0_3, .int .i64 a0_4] 34 ?_; intro gb212 hg w4 hbox hb; have BK212 := zA hbox; have GW212 := zgs hg (zs0 HB); have GE212 := zgs hg (zs0 HB); replace HB := zE (zs0 HB) hb; clear hb hbox hg))
 (try simp only [Act.put, List.setIfInBounds_toArray, List.set_cons_zero, List.set_cons_succ])
 go_cut [17] (fun v17 wc => ∃ (kq : Nat) (x17_2 : Bool), v17 = .bool x17_2 ∧ Aside0 (spec_FlyLawful.j0 kq l1 x17_2 a0_0 a0_1 l0_2 a0_3 a0_4 = some r) ∧ Aside0 (kq ≤ k) ∧ Aside0 (wc.heap[gb212]? = some (.cells #[.int .i64 a0_0, .int .i64 a0_1, (.slice A0_2 l0_2.length c0_2), .int .i64 a0_3, .int .i64 a0_4] 34 (0, 0))) ∧ Aside0 (Below w.heap.size w wc))
 case first =>
  have H := HC3.out
  clear HC3
  replace H := zbd H; obtain ⟨t213, A5, H⟩ := H
  by_cases c6 : t213 = true
  rotate_left
  ·replace c6 := Bool.eq_false_iff.mpr c6
   subst c6
   have H1 : (spec_FlyLawful.j0 k l1 true a0_0 a0_1 l0_2 a0_3 a0_4) = some r := by rw [if_neg (show ¬ (false = true) by decide)] at H; exact H
   clear H
   have H := H1
   clear H1
   have H' := zA H
   clear H
   obtain ⟨hcz10_0, hcz10_1, hcz10_2, hcz10_3, hcz10_4⟩ := zd5 BK212
   obtain ⟨hfz10_0, hfz10_1, hfz10_2, hfz10_3, hfz10_4⟩ := zn5 BK212
   go_wp2_with (first | ((with_reducible refine gate_callee (f := 32) rfl ?_); refine zgl (N := some 7) Try.func32 #[.agg #[.int .i64 a0_0, .int .i64 a0_1, .slice A0_2 l0_2.length c0_2, .int .i64 a0_3, .int .i64 a0_4]] ?_; (with_reducible refine (spec_FlyPathOk.calls k a0_0 a0_1 _ _ l0_2 a0_3 a0_4 false _ ?side1 ?side2 A5.out).mono ?_); (case side1 => exact zC HR0_2 HB); (case side2 => exact HC0_2.out); rintro e w11 ⟨rfl, hb⟩; refine ⟨_, rfl, ?_⟩; replace BK212 := zb BK212 hb; replace HB := zE (zs1 HB GE212) hb; (try clear hb); (try clear hb2); (try clear hk); (try clear hi)))
   go_meet
   case rel => exact ⟨_, (true), zi, H', ⟨by first | omega | exact Nat.le_refl _⟩, ⟨zh BK212⟩, ⟨zs1 HB GE212⟩⟩
  subst c6
  have H1 : (spec_FlyLawful.j0 k l1 ((l1.length : Int) != (wrap64 ((l0_2.length : Int) + 1))) a0_0 a0_1 l0_2 a0_3 a0_4) = some r := by rw [if_pos rfl] at H; exact H
  clear H
  have H := H1
  clear H1
  have H' := zA H
  clear H
  obtain ⟨hcz7_0, hcz7_1, hcz7_2, hcz7_3, hcz7_4⟩ := zd5 BK212
  obtain ⟨hfz7_0, hfz7_1, hfz7_2, hfz7_3, hfz7_4⟩ := zn5 BK212
  go_wp2_with (first | ((with_reducible refine gate_callee (f := 32) rfl ?_); refine zgl (N := some 7) Try.func32 #[.agg #[.int .i64 a0_0, .int .i64 a0_1, .slice A0_2 l0_2.length c0_2, .int .i64 a0_3, .int .i64 a0_4]] ?_; (with_reducible refine (spec_FlyPathOk.calls k a0_0 a0_1 _ _ l0_2 a0_3 a0_4 true _ ?side1 ?side2 A5.out).mono ?_); (case side1 => exact zC HR0_2 HB); (case side2 => exact HC0_2.out); rintro e w8 ⟨rfl, hb⟩; refine ⟨_, rfl, ?_⟩; replace BK212 := zb BK212 hb; replace HB := zE (zs1 HB GE212) hb; (try clear hb); (try clear hb2); (try clear hk); (try clear hi); obtain ⟨hcz9_0, hcz9_1, hcz9_2, hcz9_3, hcz9_4⟩ := zd5 BK212; obtain ⟨hfz9_0, hfz9_1, hfz9_2, hfz9_3, hfz9_4⟩ := zn5 BK212))
  go_meet
  case rel => exact ⟨_, (((l1.length : Int) != (wrap64 ((l0_2.length : Int) + 1)))), zi, H', ⟨by first | omega | exact Nat.le_refl _⟩, ⟨zh BK212⟩, ⟨zs1 HB GE212⟩⟩
 case rest =>
  clear HC3
  try clear c1
  try clear p2
  try clear c3
  try clear c6
  try clear p6
  try clear hcz10_0 hcz10_1 hcz10_2 hcz10_3 hcz10_4
  try clear hcz7_0 hcz7_1 hcz7_2 hcz7_3 hcz7_4
  try clear hcz9_0 hcz9_1 hcz9_2 hcz9_3 hcz9_4
  try clear hfz10_0 hfz10_1 hfz10_2 hfz10_3 hfz10_4
  try clear hfz7_0 hfz7_1 hfz7_2 hfz7_3 hfz7_4
  try clear hfz9_0 hfz9_1 hfz9_2 hfz9_3 hfz9_4
  obtain ⟨kq, x17_2, rfl, HA, HJ2, BK212, HB⟩ := hcut
  cases kq with
  | zero => exact absurd HA.out (by simp [spec_FlyLawful.j0])
  | succ kj2 =>
   have H := HA.out
   clear HA
   simp only [spec_FlyLawful.j0] at H
   by_cases c12 : x17_2 = true
   ·subst c12
    have H1 : (some false) = some r := by rw [if_pos rfl] at H; exact H
    clear H
    have H := H1
    clear H1
    obtain rfl := Option.some.inj H
    go_wp2
    go_ret
    exact ⟨ze, zs1 HB GE212⟩
   replace c12 := Bool.eq_false_iff.mpr c12
   subst c12
   have H1 : (spec_FlyLawful.l0 kj2 l1 0 a0_0 a0_1 l0_2 a0_3 a0_4) = some r := by rw [if_neg (show ¬ (false = true) by decide)] at H; exact H
   clear H
   have H := H1
   clear H1
   have H' := zA H
   clear H
   go_wp2
   go_loopg [5] kj2 (fun kq v5 w' => ∃ (x5_2 : Int), v5 = .int .i64 x5_2 ∧ Aside0 (spec_FlyLawful.l0 kq l1 x5_2 a0_0 a0_1 l0_2 a0_3 a0_4 = some r) ∧ Aside0 (kq ≤ kj2) ∧ Aside0 (w'.heap[gb212]? = some (.cells #[.int .i64 a0_0, .int .i64 a0_1, (.slice A0_2 l0_2.length c0_2), .int .i64 a0_3, .int .i64 a0_4] 34 (0, 0))) ∧ Aside0 (Below w.heap.size w w'))
   case atStart => exact ⟨(0), zi, H', ⟨Nat.le_refl _⟩, ⟨zh BK212⟩, ⟨zs1 HB GE212⟩⟩
   case round =>
    clear H'
    try clear c1
    try clear p2
    try clear c3
    try clear c6
    try clear p6
    try clear c12
    try clear hcz10_0 hcz10_1 hcz10_2 hcz10_3 hcz10_4
    try clear hcz7_0 hcz7_1 hcz7_2 hcz7_3 hcz7_4
    try clear hcz9_0 hcz9_1 hcz9_2 hcz9_3 hcz9_4
    try clear hfz10_0 hfz10_1 hfz10_2 hfz10_3 hfz10_4
    try clear hfz7_0 hfz7_1 hfz7_2 hfz7_3 hfz7_4
    try clear hfz9_0 hfz9_1 hfz9_2 hfz9_3 hfz9_4
    try clear p2
    try clear p6
    obtain ⟨x5_2, rfl, HA, HK2, BK212, HB⟩ := hrel
    cases gk with
    | zero => exact absurd HA.out (by simp [spec_FlyLawful.l0])
    | succ k2 =>
     have H := HA.out
     clear HA
     simp only [spec_FlyLawful.l0] at H
     by_cases c13 : x5_2 < (l1.length : Int)
     rotate_left
     ·rw [if_neg c13] at H
      have c13b0 : decide (x5_2 < (l1.length : Int)) = false := decide_eq_false c13
      clear c13
      obtain rfl := Option.some.inj H
      go_wp2
      go_ret
      exact ⟨ze, zs1 HB GE212⟩
     rw [if_pos c13] at H
     have c13b0 : decide (x5_2 < (l1.length : Int)) = true := decide_eq_true c13
     clear c13
     by_cases c14 : 0 ≤ x5_2
     rotate_left
     ·rw [if_neg c14] at H
      exact absurd H (by simp)
     rw [if_pos c14] at H
     have c14b0 : decide (0 ≤ x5_2) = true := decide_eq_true c14
     clear c14
     replace H := zbd H; obtain ⟨t215, A15, H⟩ := H
     replace H := Option.bind_eq_some_iff.mp H
     obtain ⟨t216, A160, H⟩ := H
     replace H : ((spec_l21In.f (rd l1 x5_2) t215 t216).bind fun t217 => (if t217 = true then (if x5_2 > 0 then (if 0 ≤ (wrap64 (x5_2 - 1)) then (if (wrap64 (x5_2 - 1)) < (l1.length : Int) then ((spec_l23Most.f a0_0 a0_1 l0_2 a0_3 a0_4 (wrap64 (x5_2 - 1))).bind fun t220 => ((spec_l21In.f (wrap64 ((rd l1 x5_2) - (rd l1 (wrap64 (x5_2 - 1))))) a0_0 t220).bind fun t221 => (if t221 = true then (spec_FlyLawful.l0 k2 l1 (wrap64 (x5_2 + 1)) a0_0 a0_1 l0_2 a0_3 a0_4) else (some false)))) else (none)) else (none)) else (spec_FlyLawful.l0 k2 l1 (wrap64 (x5_2 + 1)) a0_0 a0_1 l0_2 a0_3 a0_4)) else (some false))) = some r := H
     have A16 := zA A160
     clear A160
     replace H := zbd H; obtain ⟨t217, A17, H⟩ := H
     by_cases c18 : t217 = true
     rotate_left
     ·replace c18 := Bool.eq_false_iff.mpr c18
      subst c18
      have H1 : (some false) = some r := by rw [if_neg (show ¬ (false = true) by decide)] at H; exact H
      clear H
      have H := H1
      clear H1
      obtain rfl := Option.some.inj H
      try go_wp2
      replace BK212 := zA (blk_drew BK212.out)
      replace HB := zA (below_drew1 HB.out)
      have p214 : 0 ≤ (x5_2 : Int) := za
      have q214 : x5_2 < (l1.length : Int) := za
      obtain ⟨ad214, e214, hx214_0⟩ := Kd.at_int HR1.out x5_2 p214 q214
      have hw214_0 := hx214_0
      cases e214
      replace hx214_0 := zx HB hx214_0
      replace p214 := eq_true p214
      replace q214 := eq_true q214
      refine start_ (n := 12) (S := fun w' => w'.cell? ⟨gb212, 0, none⟩ = some (.int .i64 a0_0) ∧ w'.cell? ⟨gb212, 1, none⟩ = some (.int .i64 a0_1) ∧ w'.cell? ⟨gb212, 2, none⟩ = some (.slice A0_2 l0_2.length c0_2) ∧ w'.cell? ⟨gb212, 3, none⟩ = some (.int .i64 a0_3) ∧ w'.cell? ⟨gb212, 4, none⟩ = some (.int .i64 a0_4) ∧ w'.cell? (ad214.add (x5_2).toNat) = some (.int .i64 (rd l1 x5_2))) (ds := []) #[F,F,F,F,F,F,F,F,F,F,F,F] (by kernel_rfl) rfl rfl ⟨zc0 BK212, zc1 BK212, zc2 BK212, zc3 BK212, zc4 BK212, (zw HB hw214_0)⟩ (fun hHeld => ?_); refine with_tabW spec_FlyLawful.tab6 spec_FlyLawful.bits6 (fun HT_ HW_ => ?_)
      generalize wr.drew = w40 at BK212 HB hx214_0 hHeld ⊢
      refine zq HT_ 0 ?_
      refine zq HT_ 1 ?_
      refine zq HT_ 2 ?_
      refine zq HT_ 5 ?_
      refine zq HT_ 8 ?_
      refine zk6 HT_ HW_ hHeld 3 ?_
      refine zk6 HT_ HW_ hHeld 4 ?_
      refine zk6 HT_ HW_ hHeld 7 ?_
      refine zo HT_ 6 (fun K hK => ?_)
      refine zgo Try.func80 #[.agg #[.int .i64 a0_0, .int .i64 a0_1, .slice A0_2 l0_2.length c0_2, .int .i64 a0_3, .int .i64 a0_4], .int .i64 x5_2] ?_
      with_reducible refine (spec_l23Low.calls a0_0 a0_1 _ _ l0_2 a0_3 a0_4 x5_2 t215 _ ?side1 ?side2 A15.out).mono ?_
      (case side1 => exact zC HR0_2 HB)
      (case side2 => exact HC0_2.out)
      rintro e w41 ⟨rfl, hb⟩
      refine ⟨_, rfl, ?_⟩
      replace BK212 := zb BK212 hb
      replace HB := zE (zs1 HB GE212) hb
      (try clear hb)
      (try clear hb2)
      (try clear hk)
      (try clear hi)
      refine hK.out _ _ ⟨zc0 BK212, zc1 BK212, zc2 BK212, zc3 BK212, zc4 BK212, (zw HB hw214_0)⟩ (fun hHeld => ?_)
      clear hK K
      refine zN ?_
      refine zo HT_ 9 (fun K hK => ?_)
      refine zgo Try.func81 #[.agg #[.int .i64 a0_0, .int .i64 a0_1, .slice A0_2 l0_2.length c0_2, .int .i64 a0_3, .int .i64 a0_4], .int .i64 x5_2] ?_
      with_reducible refine (spec_l23High.calls a0_0 a0_1 _ _ l0_2 a0_3 a0_4 x5_2 t216 _ ?side1 ?side2 A16.out).mono ?_
      (case side1 => exact zC HR0_2 HB)
      (case side2 => exact HC0_2.out)
      rintro e w42 ⟨rfl, hb⟩
      refine ⟨_, rfl, ?_⟩
      replace BK212 := zb BK212 hb
      replace HB := zE (zs1 HB GE212) hb
      (try clear hb)
      (try clear hb2)
      (try clear hk)
      (try clear hi)
      refine hK.out _ _ ⟨zc0 BK212, zc1 BK212, zc2 BK212, zc3 BK212, zc4 BK212, (zw HB hw214_0)⟩ (fun hHeld => ?_)
      clear hK K
      refine zN ?_
      refine zo HT_ 10 (fun K hK => ?_)
      refine zgo Try.func70 #[.int .i64 (rd l1 x5_2), .int .i64 t215, .int .i64 t216] ?_
      with_reducible refine (spec_l21In.calls (rd l1 x5_2) t215 t216 false _ A17.out).mono ?_
      rintro e w' ⟨rfl, ⟨nd, rfl⟩⟩
      refine ⟨_, rfl, ?_⟩
      refine hK.out _ _ ⟨zc0 BK212, zc1 BK212, zc2 BK212, zc3 BK212, zc4 BK212, (zw HB hw214_0)⟩ (fun hHeld => ?_)
      clear hK K
      refine zN ?_
      refine zq HT_ 11 ?_
      refine done_ (done_of HT_.out (by kernel_rfl)) ?_
      try go_wp2
      go_ret
      exact ⟨ze, zs1 HB GE212⟩
     subst c18
     have H1 : (if x5_2 > 0 then (if 0 ≤ (wrap64 (x5_2 - 1)) then (if (wrap64 (x5_2 - 1)) < (l1.length : Int) then ((spec_l23Most.f a0_0 a0_1 l0_2 a0_3 a0_4 (wrap64 (x5_2 - 1))).bind fun t220 => ((spec_l21In.f (wrap64 ((rd l1 x5_2) - (rd l1 (wrap64 (x5_2 - 1))))) a0_0 t220).bind fun t221 => (if t221 = true then (spec_FlyLawful.l0 k2 l1 (wrap64 (x5_2 + 1)) a0_0 a0_1 l0_2 a0_3 a0_4) else (some false)))) else (none)) else (none)) else (spec_FlyLawful.l0 k2 l1 (wrap64 (x5_2 + 1)) a0_0 a0_1 l0_2 a0_3 a0_4)) = some r := by rw [if_pos rfl] at H; exact H
     clear H
     have H := H1
     clear H1
     by_cases c19 : x5_2 > 0
     rotate_left
     ·rw [if_neg c19] at H
      have c19b0 : decide (0 < x5_2) = false := decide_eq_false c19
      clear c19
      have H' := zA H
      clear H
      try go_wp2
      replace BK212 := zA (blk_drew BK212.out)
      replace HB := zA (below_drew1 HB.out)
      have p214 : 0 ≤ (x5_2 : Int) := za
      have q214 : x5_2 < (l1.length : Int) := za
      obtain ⟨ad214, e214, hx214_0⟩ := Kd.at_int HR1.out x5_2 p214 q214
      have hw214_0 := hx214_0
      cases e214
      replace hx214_0 := zx HB hx214_0
      replace p214 := eq_true p214
      replace q214 := eq_true q214
      refine start_ (n := 12) (S := fun w' => w'.cell? ⟨gb212, 0, none⟩ = some (.int .i64 a0_0) ∧ w'.cell? ⟨gb212, 1, none⟩ = some (.int .i64 a0_1) ∧ w'.cell? ⟨gb212, 2, none⟩ = some (.slice A0_2 l0_2.length c0_2) ∧ w'.cell? ⟨gb212, 3, none⟩ = some (.int .i64 a0_3) ∧ w'.cell? ⟨gb212, 4, none⟩ = some (.int .i64 a0_4) ∧ w'.cell? (ad214.add (x5_2).toNat) = some (.int .i64 (rd l1 x5_2))) (ds := []) #[F,F,F,F,F,F,F,F,F,F,F,F] (by kernel_rfl) rfl rfl ⟨zc0 BK212, zc1 BK212, zc2 BK212, zc3 BK212, zc4 BK212, (zw HB hw214_0)⟩ (fun hHeld => ?_); refine with_tabW spec_FlyLawful.tab6 spec_FlyLawful.bits6 (fun HT_ HW_ => ?_)
      generalize wr.drew = w36 at BK212 HB hx214_0 hHeld ⊢
      refine zq HT_ 0 ?_
      refine zq HT_ 1 ?_
      refine zq HT_ 2 ?_
      refine zq HT_ 5 ?_
      refine zq HT_ 8 ?_
      refine zk6 HT_ HW_ hHeld 3 ?_
      refine zk6 HT_ HW_ hHeld 4 ?_
      refine zk6 HT_ HW_ hHeld 7 ?_
      refine zo HT_ 6 (fun K hK => ?_)
      refine zgo Try.func80 #[.agg #[.int .i64 a0_0, .int .i64 a0_1, .slice A0_2 l0_2.length c0_2, .int .i64 a0_3, .int .i64 a0_4], .int .i64 x5_2] ?_
      with_reducible refine (spec_l23Low.calls a0_0 a0_1 _ _ l0_2 a0_3 a0_4 x5_2 t215 _ ?side1 ?side2 A15.out).mono ?_
      (case side1 => exact zC HR0_2 HB)
      (case side2 => exact HC0_2.out)
      rintro e w37 ⟨rfl, hb⟩
      refine ⟨_, rfl, ?_⟩
      replace BK212 := zb BK212 hb
      replace HB := zE (zs1 HB GE212) hb
      (try clear hb)
      (try clear hb2)
      (try clear hk)
      (try clear hi)
      refine hK.out _ _ ⟨zc0 BK212, zc1 BK212, zc2 BK212, zc3 BK212, zc4 BK212, (zw HB hw214_0)⟩ (fun hHeld => ?_)
      clear hK K
      refine zN ?_
      refine zo HT_ 9 (fun K hK => ?_)
      refine zgo Try.func81 #[.agg #[.int .i64 a0_0, .int .i64 a0_1, .slice A0_2 l0_2.length c0_2, .int .i64 a0_3, .int .i64 a0_4], .int .i64 x5_2] ?_
      with_reducible refine (spec_l23High.calls a0_0 a0_1 _ _ l0_2 a0_3 a0_4 x5_2 t216 _ ?side1 ?side2 A16.out).mono ?_
      (case side1 => exact zC HR0_2 HB)
      (case side2 => exact HC0_2.out)
      rintro e w38 ⟨rfl, hb⟩
      refine ⟨_, rfl, ?_⟩
      replace BK212 := zb BK212 hb
      replace HB := zE (zs1 HB GE212) hb
      (try clear hb)
      (try clear hb2)
      (try clear hk)
      (try clear hi)
      refine hK.out _ _ ⟨zc0 BK212, zc1 BK212, zc2 BK212, zc3 BK212, zc4 BK212, (zw HB hw214_0)⟩ (fun hHeld => ?_)
      clear hK K
      refine zN ?_
      refine zo HT_ 10 (fun K hK => ?_)
      refine zgo Try.func70 #[.int .i64 (rd l1 x5_2), .int .i64 t215, .int .i64 t216] ?_
      with_reducible refine (spec_l21In.calls (rd l1 x5_2) t215 t216 true _ A17.out).mono ?_
      rintro e w' ⟨rfl, ⟨nd, rfl⟩⟩
      refine ⟨_, rfl, ?_⟩
      refine hK.out _ _ ⟨zc0 BK212, zc1 BK212, zc2 BK212, zc3 BK212, zc4 BK212, (zw HB hw214_0)⟩ (fun hHeld => ?_)
      clear hK K
      refine zN ?_
      refine zq HT_ 11 ?_
      refine done_ (done_of HT_.out (by kernel_rfl)) ?_
      try go_wp2
      (try (rw [drewN_self w38]; generalize hq_ : World.drewN w38 _ = w38; replace BK212 : Aside0 (w38.heap[gb212]? = some (.cells #[.int .i64 a0_0, .int .i64 a0_1, .slice A0_2 l0_2.length c0_2, .int .i64 a0_3, .int .i64 a0_4] 34 (0, 0))) := ⟨by rw [← hq_]; exact (zh BK212)⟩; replace HB : Aside0 (Below w.heap.size w w38) := ⟨by rw [← hq_]; exact (zs1 HB GE212)⟩; clear hq_))
      replace BK212 := zA (blk_drew BK212.out)
      replace HB := zA (below_drew1 HB.out)
      refine start_ (n := 23) (S := fun w' => True) (ds := []) #[F,F,F,F,F,F,F,F,F,F,F,F,F,F,F,F,F,F,F,F,F,F,F] (by kernel_rfl) rfl rfl trivial (fun hHeld => ?_); refine with_tabW spec_FlyLawful.tab8 spec_FlyLawful.bits8 (fun HT_ HW_ => ?_)
      generalize w38.drew = w39 at BK212 HB hHeld ⊢
      refine zq HT_ 0 ?_
      refine zq HT_ 1 ?_
      refine zq HT_ 2 ?_
      refine zu HT_ 3 ?_
      refine zu HT_ 4 ?_
      refine zu HT_ 5 ?_
      refine zu HT_ 6 ?_
      refine zu HT_ 7 ?_
      refine zu HT_ 8 ?_
      refine zu HT_ 9 ?_
      refine zu HT_ 10 ?_
      refine zu HT_ 11 ?_
      refine zu HT_ 12 ?_
      refine zu HT_ 13 ?_
      refine zu HT_ 14 ?_
      refine zu HT_ 15 ?_
      refine zu HT_ 16 ?_
      refine zu HT_ 17 ?_
      refine zu HT_ 18 ?_
      refine zu HT_ 19 ?_
      refine zu HT_ 20 ?_
      refine zu HT_ 21 ?_
      refine zq HT_ 22 ?_
      refine done_ (done_of HT_.out (by kernel_rfl)) ?_
      try go_wp2
      go_roundg k2
      case measure => have := HJ2.out; have := HK2.out; omega
      case rel => exact ⟨(wrap64 (x5_2 + 1)), zi, H', ⟨by have := HJ2.out; have := HK2.out; omega⟩, ⟨zh BK212⟩, ⟨zs1 HB GE212⟩⟩
     rw [if_pos c19] at H
     have c19b0 : decide (0 < x5_2) = true := decide_eq_true c19
     clear c19
     obtain ⟨ji20, hji20⟩ : ∃ j_ : Int, (wrap64 (x5_2 - 1)) = j_ := ⟨_, rfl⟩
     first | rw [hji20] at H | simp only [hji20] at H
     (try rw [hji20] at A15)
     (try rw [hji20] at A16)
     (try rw [hji20] at A17)
     have hji20w : (IntKind.i64.wrap (x5_2 - 1)) = ji20 := (i64_w _).trans hji20
     by_cases c21 : 0 ≤ (ji20)
     rotate_left
     ·rw [if_neg c21] at H
      exact absurd H (by simp)
     rw [if_pos c21] at H
     have c21b0 : decide (0 ≤ (ji20)) = true := decide_eq_true c21
     clear c21
     by_cases c22 : (ji20) < (l1.length : Int)
     rotate_left
     ·rw [if_neg c22] at H
      exact absurd H (by simp)
     rw [if_pos c22] at H
     have c22b0 : decide ((ji20) < (l1.length : Int)) = true := decide_eq_true c22
     clear c22
     replace H := zbd H; obtain ⟨t220, A23, H⟩ := H
     replace H := Option.bind_eq_some_iff.mp H
     obtain ⟨t221, A240, H⟩ := H
     replace H : (if t221 = true then (spec_FlyLawful.l0 k2 l1 (wrap64 (x5_2 + 1)) a0_0 a0_1 l0_2 a0_3 a0_4) else (some false)) = some r := H
     have A24 := zA A240
     clear A240
     by_cases c25 : t221 = true
     rotate_left
     ·replace c25 := Bool.eq_false_iff.mpr c25
      subst c25
      have H1 : (some false) = some r := by rw [if_neg (show ¬ (false = true) by decide)] at H; exact H
      clear H
      have H := H1
      clear H1
      obtain rfl := Option.some.inj H
      try go_wp2
      replace BK212 := zA (blk_drew BK212.out)
      replace HB := zA (below_drew1 HB.out)
      have p214 : 0 ≤ (x5_2 : Int) := za
      have q214 : x5_2 < (l1.length : Int) := za
      obtain ⟨ad214, e214, hx214_0⟩ := Kd.at_int HR1.out x5_2 p214 q214
      have hw214_0 := hx214_0
      cases e214
      replace hx214_0 := zx HB hx214_0
      replace p214 := eq_true p214
      replace q214 := eq_true q214
      refine start_ (n := 12) (S := fun w' => w'.cell? ⟨gb212, 0, none⟩ = some (.int .i64 a0_0) ∧ w'.cell? ⟨gb212, 1, none⟩ = some (.int .i64 a0_1) ∧ w'.cell? ⟨gb212, 2, none⟩ = some (.slice A0_2 l0_2.length c0_2) ∧ w'.cell? ⟨gb212, 3, none⟩ = some (.int .i64 a0_3) ∧ w'.cell? ⟨gb212, 4, none⟩ = some (.int .i64 a0_4) ∧ w'.cell? (ad214.add (x5_2).toNat) = some (.int .i64 (rd l1 x5_2))) (ds := []) #[F,F,F,F,F,F,F,F,F,F,F,F] (by kernel_rfl) rfl rfl ⟨zc0 BK212, zc1 BK212, zc2 BK212, zc3 BK212, zc4 BK212, (zw HB hw214_0)⟩ (fun hHeld => ?_); refine with_tabW spec_FlyLawful.tab6 spec_FlyLawful.bits6 (fun HT_ HW_ => ?_)
      generalize wr.drew = w31 at BK212 HB hx214_0 hHeld ⊢
      refine zq HT_ 0 ?_
      refine zq HT_ 1 ?_
      refine zq HT_ 2 ?_
      refine zq HT_ 5 ?_
      refine zq HT_ 8 ?_
      refine zk6 HT_ HW_ hHeld 3 ?_
      refine zk6 HT_ HW_ hHeld 4 ?_
      refine zk6 HT_ HW_ hHeld 7 ?_
      refine zo HT_ 6 (fun K hK => ?_)
      refine zgo Try.func80 #[.agg #[.int .i64 a0_0, .int .i64 a0_1, .slice A0_2 l0_2.length c0_2, .int .i64 a0_3, .int .i64 a0_4], .int .i64 x5_2] ?_
      with_reducible refine (spec_l23Low.calls a0_0 a0_1 _ _ l0_2 a0_3 a0_4 x5_2 t215 _ ?side1 ?side2 A15.out).mono ?_
      (case side1 => exact zC HR0_2 HB)
      (case side2 => exact HC0_2.out)
      rintro e w32 ⟨rfl, hb⟩
      refine ⟨_, rfl, ?_⟩
      replace BK212 := zb BK212 hb
      replace HB := zE (zs1 HB GE212) hb
      (try clear hb)
      (try clear hb2)
      (try clear hk)
      (try clear hi)
      refine hK.out _ _ ⟨zc0 BK212, zc1 BK212, zc2 BK212, zc3 BK212, zc4 BK212, (zw HB hw214_0)⟩ (fun hHeld => ?_)
      clear hK K
      refine zN ?_
      refine zo HT_ 9 (fun K hK => ?_)
      refine zgo Try.func81 #[.agg #[.int .i64 a0_0, .int .i64 a0_1, .slice A0_2 l0_2.length c0_2, .int .i64 a0_3, .int .i64 a0_4], .int .i64 x5_2] ?_
      with_reducible refine (spec_l23High.calls a0_0 a0_1 _ _ l0_2 a0_3 a0_4 x5_2 t216 _ ?side1 ?side2 A16.out).mono ?_
      (case side1 => exact zC HR0_2 HB)
      (case side2 => exact HC0_2.out)
      rintro e w33 ⟨rfl, hb⟩
      refine ⟨_, rfl, ?_⟩
      replace BK212 := zb BK212 hb
      replace HB := zE (zs1 HB GE212) hb
      (try clear hb)
      (try clear hb2)
      (try clear hk)
      (try clear hi)
      refine hK.out _ _ ⟨zc0 BK212, zc1 BK212, zc2 BK212, zc3 BK212, zc4 BK212, (zw HB hw214_0)⟩ (fun hHeld => ?_)
      clear hK K
      refine zN ?_
      refine zo HT_ 10 (fun K hK => ?_)
      refine zgo Try.func70 #[.int .i64 (rd l1 x5_2), .int .i64 t215, .int .i64 t216] ?_
      with_reducible refine (spec_l21In.calls (rd l1 x5_2) t215 t216 true _ A17.out).mono ?_
      rintro e w' ⟨rfl, ⟨nd, rfl⟩⟩
      refine ⟨_, rfl, ?_⟩
      refine hK.out _ _ ⟨zc0 BK212, zc1 BK212, zc2 BK212, zc3 BK212, zc4 BK212, (zw HB hw214_0)⟩ (fun hHeld => ?_)
      clear hK K
      refine zN ?_
      refine zq HT_ 11 ?_
      refine done_ (done_of HT_.out (by kernel_rfl)) ?_
      try go_wp2
      (try (rw [drewN_self w33]; generalize hq_ : World.drewN w33 _ = w33; replace BK212 : Aside0 (w33.heap[gb212]? = some (.cells #[.int .i64 a0_0, .int .i64 a0_1, .slice A0_2 l0_2.length c0_2, .int .i64 a0_3, .int .i64 a0_4] 34 (0, 0))) := ⟨by rw [← hq_]; exact (zh BK212)⟩; replace HB : Aside0 (Below w.heap.size w w33) := ⟨by rw [← hq_]; exact (zs1 HB GE212)⟩; clear hq_))
      replace BK212 := zA (blk_drew BK212.out)
      replace HB := zA (below_drew1 HB.out)
      have p218 : 0 ≤ (x5_2 : Int) := za
      have q218 : x5_2 < (l1.length : Int) := za
      obtain ⟨ad218, e218, hx218_0⟩ := Kd.at_int HR1.out x5_2 p218 q218
      have hw218_0 := hx218_0
      obtain rfl : ad214 = ad218 := (by injection e218)
      replace hx218_0 := zx HB hx218_0
      replace p218 := eq_true p218
      replace q218 := eq_true q218
      have p219 : 0 ≤ ((ji20) : Int) := za
      have q219 : (ji20) < (l1.length : Int) := za
      obtain ⟨ad219, e219, hx219_0⟩ := Kd.at_int HR1.out (ji20) p219 q219
      have hw219_0 := hx219_0
      obtain rfl : ad214 = ad219 := (by injection e219)
      replace hx219_0 := zx HB hx219_0
      replace p219 := eq_true p219
      replace q219 := eq_true q219
      refine start_ (n := 23) (S := fun w' => w'.cell? ⟨gb212, 0, none⟩ = some (.int .i64 a0_0) ∧ w'.cell? ⟨gb212, 1, none⟩ = some (.int .i64 a0_1) ∧ w'.cell? ⟨gb212, 2, none⟩ = some (.slice A0_2 l0_2.length c0_2) ∧ w'.cell? ⟨gb212, 3, none⟩ = some (.int .i64 a0_3) ∧ w'.cell? ⟨gb212, 4, none⟩ = some (.int .i64 a0_4) ∧ w'.cell? (ad214.add (x5_2).toNat) = some (.int .i64 (rd l1 x5_2)) ∧ w'.cell? (ad214.add ((ji20)).toNat) = some (.int .i64 (rd l1 (ji20)))) (ds := []) #[F,F,F,F,F,F,F,F,F,F,F,F,F,F,F,F,F,F,F,F,F,F,F] (by kernel_rfl) rfl rfl ⟨zc0 BK212, zc1 BK212, zc2 BK212, zc3 BK212, zc4 BK212, (zw HB hw218_0), (zw HB hw219_0)⟩ (fun hHeld => ?_); refine with_tabW spec_FlyLawful.tab8 spec_FlyLawful.bits8 (fun HT_ HW_ => ?_)
      generalize w33.drew = w34 at BK212 HB hx218_0 hx219_0 hHeld ⊢
      refine zq HT_ 0 ?_
      refine zq HT_ 1 ?_
      refine zq HT_ 2 ?_
      refine zq HT_ 3 ?_
      refine zq HT_ 4 ?_
      refine zq HT_ 5 ?_
      refine zq HT_ 7 ?_
      refine zq HT_ 8 ?_
      refine zq HT_ 9 ?_
      refine zq HT_ 10 ?_
      refine zq HT_ 13 ?_
      refine zq HT_ 14 ?_
      refine zq HT_ 17 ?_
      refine zq HT_ 18 ?_
      refine zk7 HT_ HW_ hHeld 6 ?_
      refine zk7 HT_ HW_ hHeld 11 ?_
      refine zq HT_ 12 ?_
      refine zk7 HT_ HW_ hHeld 15 ?_
      refine zk7 HT_ HW_ hHeld 16 ?_
      refine zo HT_ 19 (fun K hK => ?_)
      refine goes_ Try.func82 (by kernel_rfl) rfl #[.agg #[.int .i64 a0_0, .int .i64 a0_1, .slice A0_2 l0_2.length c0_2, .int .i64 a0_3, .int .i64 a0_4], .int .i64 ji20] (by rfl) rfl rfl (by (try simp only [List.map_toArray, List.map_cons, List.map_nil]); first | done | (simp only [hji20]; rfl) | rfl | (simp only [List.length_drop, List.length_take]; rfl)) ?_
      with_reducible refine (spec_l23Most.calls a0_0 a0_1 _ _ l0_2 a0_3 a0_4 ji20 t220 _ ?side1 ?side2 A23.out).mono ?_
      (case side1 => exact zC HR0_2 HB)
      (case side2 => exact HC0_2.out)
      rintro e w35 ⟨rfl, hb⟩
      refine ⟨_, rfl, ?_⟩
      replace BK212 := zb BK212 hb
      replace HB := zE (zs1 HB GE212) hb
      (try clear hb)
      (try clear hb2)
      (try clear hk)
      (try clear hi)
      refine hK.out _ _ ⟨zc0 BK212, zc1 BK212, zc2 BK212, zc3 BK212, zc4 BK212, (zw HB hw218_0), (zw HB hw219_0)⟩ (fun hHeld => ?_)
      clear hK K
      refine zN ?_
      refine zo HT_ 20 (fun K hK => ?_)
      refine goes_ Try.func70 (by kernel_rfl) rfl #[.int .i64 (wrap64 ((rd l1 x5_2) - (rd l1 (ji20)))), .int .i64 a0_0, .int .i64 t220] (by rfl) rfl rfl (by (try simp only [List.map_toArray, List.map_cons, List.map_nil]); first | done | (simp only [hji20]; rfl) | rfl | (simp only [List.length_drop, List.length_take]; rfl)) ?_
      with_reducible refine (spec_l21In.calls (wrap64 ((rd l1 x5_2) - (rd l1 (ji20)))) a0_0 t220 false _ A24.out).mono ?_
      rintro e w' ⟨rfl, ⟨nd, rfl⟩⟩
      refine ⟨_, rfl, ?_⟩
      refine hK.out _ _ ⟨zc0 BK212, zc1 BK212, zc2 BK212, zc3 BK212, zc4 BK212, (zw HB hw218_0), (zw HB hw219_0)⟩ (fun hHeld => ?_)
      clear hK K
      refine zN ?_
      refine zq HT_ 21 ?_
      refine zq HT_ 22 ?_
      refine done_ (done_of HT_.out (by kernel_rfl)) ?_
      try go_wp2
      go_ret
      exact ⟨by first | rfl | (simp [errW_none, errW_some] <;> rfl) | (simp only [← hji20]; first | rfl | (simp [errW_none, errW_some] <;> rfl)) | (simp [*, errW_none, errW_some] <;> rfl), zs1 HB GE212⟩
     subst c25
     have H1 : (spec_FlyLawful.l0 k2 l1 (wrap64 (x5_2 + 1)) a0_0 a0_1 l0_2 a0_3 a0_4) = some r := by rw [if_pos rfl] at H; exact H
     clear H
     have H := H1
     clear H1
     have H' := zA H
     clear H
     try go_wp2
     replace BK212 := zA (blk_drew BK212.out)
     replace HB := zA (below_drew1 HB.out)
     have p214 : 0 ≤ (x5_2 : Int) := za
     have q214 : x5_2 < (l1.length : Int) := za
     obtain ⟨ad214, e214, hx214_0⟩ := Kd.at_int HR1.out x5_2 p214 q214
     have hw214_0 := hx214_0
     cases e214
     replace hx214_0 := zx HB hx214_0
     replace p214 := eq_true p214
     replace q214 := eq_true q214
     refine start_ (n := 12) (S := fun w' => w'.cell? ⟨gb212, 0, none⟩ = some (.int .i64 a0_0) ∧ w'.cell? ⟨gb212, 1, none⟩ = some (.int .i64 a0_1) ∧ w'.cell? ⟨gb212, 2, none⟩ = some (.slice A0_2 l0_2.length c0_2) ∧ w'.cell? ⟨gb212, 3, none⟩ = some (.int .i64 a0_3) ∧ w'.cell? ⟨gb212, 4, none⟩ = some (.int .i64 a0_4) ∧ w'.cell? (ad214.add (x5_2).toNat) = some (.int .i64 (rd l1 x5_2))) (ds := []) #[F,F,F,F,F,F,F,F,F,F,F,F] (by kernel_rfl) rfl rfl ⟨zc0 BK212, zc1 BK212, zc2 BK212, zc3 BK212, zc4 BK212, (zw HB hw214_0)⟩ (fun hHeld => ?_); refine with_tabW spec_FlyLawful.tab6 spec_FlyLawful.bits6 (fun HT_ HW_ => ?_)
     generalize wr.drew = w26 at BK212 HB hx214_0 hHeld ⊢
     refine zq HT_ 0 ?_
     refine zq HT_ 1 ?_
     refine zq HT_ 2 ?_
     refine zq HT_ 5 ?_
     refine zq HT_ 8 ?_
     refine zk6 HT_ HW_ hHeld 3 ?_
     refine zk6 HT_ HW_ hHeld 4 ?_
     refine zk6 HT_ HW_ hHeld 7 ?_
     refine zo HT_ 6 (fun K hK => ?_)
     refine zgo Try.func80 #[.agg #[.int .i64 a0_0, .int .i64 a0_1, .slice A0_2 l0_2.length c0_2, .int .i64 a0_3, .int .i64 a0_4], .int .i64 x5_2] ?_
     with_reducible refine (spec_l23Low.calls a0_0 a0_1 _ _ l0_2 a0_3 a0_4 x5_2 t215 _ ?side1 ?side2 A15.out).mono ?_
     (case side1 => exact zC HR0_2 HB)
     (case side2 => exact HC0_2.out)
     rintro e w27 ⟨rfl, hb⟩
     refine ⟨_, rfl, ?_⟩
     replace BK212 := zb BK212 hb
     replace HB := zE (zs1 HB GE212) hb
     (try clear hb)
     (try clear hb2)
     (try clear hk)
     (try clear hi)
     refine hK.out _ _ ⟨zc0 BK212, zc1 BK212, zc2 BK212, zc3 BK212, zc4 BK212, (zw HB hw214_0)⟩ (fun hHeld => ?_)
     clear hK K
     refine zN ?_
     refine zo HT_ 9 (fun K hK => ?_)
     refine zgo Try.func81 #[.agg #[.int .i64 a0_0, .int .i64 a0_1, .slice A0_2 l0_2.length c0_2, .int .i64 a0_3, .int .i64 a0_4], .int .i64 x5_2] ?_
     with_reducible refine (spec_l23High.calls a0_0 a0_1 _ _ l0_2 a0_3 a0_4 x5_2 t216 _ ?side1 ?side2 A16.out).mono ?_
     (case side1 => exact zC HR0_2 HB)
     (case side2 => exact HC0_2.out)
     rintro e w28 ⟨rfl, hb⟩
     refine ⟨_, rfl, ?_⟩
     replace BK212 := zb BK212 hb
     replace HB := zE (zs1 HB GE212) hb
     (try clear hb)
     (try clear hb2)
     (try clear hk)
     (try clear hi)
     refine hK.out _ _ ⟨zc0 BK212, zc1 BK212, zc2 BK212, zc3 BK212, zc4 BK212, (zw HB hw214_0)⟩ (fun hHeld => ?_)
     clear hK K
     refine zN ?_
     refine zo HT_ 10 (fun K hK => ?_)
     refine zgo Try.func70 #[.int .i64 (rd l1 x5_2), .int .i64 t215, .int .i64 t216] ?_
     with_reducible refine (spec_l21In.calls (rd l1 x5_2) t215 t216 true _ A17.out).mono ?_
     rintro e w' ⟨rfl, ⟨nd, rfl⟩⟩
     refine ⟨_, rfl, ?_⟩
     refine hK.out _ _ ⟨zc0 BK212, zc1 BK212, zc2 BK212, zc3 BK212, zc4 BK212, (zw HB hw214_0)⟩ (fun hHeld => ?_)
     clear hK K
     refine zN ?_
     refine zq HT_ 11 ?_
     refine done_ (done_of HT_.out (by kernel_rfl)) ?_
     try go_wp2
     (try (rw [drewN_self w28]; generalize hq_ : World.drewN w28 _ = w28; replace BK212 : Aside0 (w28.heap[gb212]? = some (.cells #[.int .i64 a0_0, .int .i64 a0_1, .slice A0_2 l0_2.length c0_2, .int .i64 a0_3, .int .i64 a0_4] 34 (0, 0))) := ⟨by rw [← hq_]; exact (zh BK212)⟩; replace HB : Aside0 (Below w.heap.size w w28) := ⟨by rw [← hq_]; exact (zs1 HB GE212)⟩; clear hq_))
     replace BK212 := zA (blk_drew BK212.out)
     replace HB := zA (below_drew1 HB.out)
     have p218 : 0 ≤ (x5_2 : Int) := za
     have q218 : x5_2 < (l1.length : Int) := za
     obtain ⟨ad218, e218, hx218_0⟩ := Kd.at_int HR1.out x5_2 p218 q218
     have hw218_0 := hx218_0
     obtain rfl : ad214 = ad218 := (by injection e218)
     replace hx218_0 := zx HB hx218_0
     replace p218 := eq_true p218
     replace q218 := eq_true q218
     have p219 : 0 ≤ ((ji20) : Int) := za
     have q219 : (ji20) < (l1.length : Int) := za
     obtain ⟨ad219, e219, hx219_0⟩ := Kd.at_int HR1.out (ji20) p219 q219
     have hw219_0 := hx219_0
     obtain rfl : ad214 = ad219 := (by injection e219)
     replace hx219_0 := zx HB hx219_0
     replace p219 := eq_true p219
     replace q219 := eq_true q219
     refine start_ (n := 23) (S := fun w' => w'.cell? ⟨gb212, 0, none⟩ = some (.int .i64 a0_0) ∧ w'.cell? ⟨gb212, 1, none⟩ = some (.int .i64 a0_1) ∧ w'.cell? ⟨gb212, 2, none⟩ = some (.slice A0_2 l0_2.length c0_2) ∧ w'.cell? ⟨gb212, 3, none⟩ = some (.int .i64 a0_3) ∧ w'.cell? ⟨gb212, 4, none⟩ = some (.int .i64 a0_4) ∧ w'.cell? (ad214.add (x5_2).toNat) = some (.int .i64 (rd l1 x5_2)) ∧ w'.cell? (ad214.add ((ji20)).toNat) = some (.int .i64 (rd l1 (ji20)))) (ds := []) #[F,F,F,F,F,F,F,F,F,F,F,F,F,F,F,F,F,F,F,F,F,F,F] (by kernel_rfl) rfl rfl ⟨zc0 BK212, zc1 BK212, zc2 BK212, zc3 BK212, zc4 BK212, (zw HB hw218_0), (zw HB hw219_0)⟩ (fun hHeld => ?_); refine with_tabW spec_FlyLawful.tab8 spec_FlyLawful.bits8 (fun HT_ HW_ => ?_)
     generalize w28.drew = w29 at BK212 HB hx218_0 hx219_0 hHeld ⊢
     refine zq HT_ 0 ?_
     refine zq HT_ 1 ?_
     refine zq HT_ 2 ?_
     refine zq HT_ 3 ?_
     refine zq HT_ 4 ?_
     refine zq HT_ 5 ?_
     refine zq HT_ 7 ?_
     refine zq HT_ 8 ?_
     refine zq HT_ 9 ?_
     refine zq HT_ 10 ?_
     refine zq HT_ 13 ?_
     refine zq HT_ 14 ?_
     refine zq HT_ 17 ?_
     refine zq HT_ 18 ?_
     refine zk7 HT_ HW_ hHeld 6 ?_
     refine zk7 HT_ HW_ hHeld 11 ?_
     refine zq HT_ 12 ?_
     refine zk7 HT_ HW_ hHeld 15 ?_
     refine zk7 HT_ HW_ hHeld 16 ?_
     refine zo HT_ 19 (fun K hK => ?_)
     refine goes_ Try.func82 (by kernel_rfl) rfl #[.agg #[.int .i64 a0_0, .int .i64 a0_1, .slice A0_2 l0_2.length c0_2, .int .i64 a0_3, .int .i64 a0_4], .int .i64 ji20] (by rfl) rfl rfl (by (try simp only [List.map_toArray, List.map_cons, List.map_nil]); first | done | (simp only [hji20]; rfl) | rfl | (simp only [List.length_drop, List.length_take]; rfl)) ?_
     with_reducible refine (spec_l23Most.calls a0_0 a0_1 _ _ l0_2 a0_3 a0_4 ji20 t220 _ ?side1 ?side2 A23.out).mono ?_
     (case side1 => exact zC HR0_2 HB)
     (case side2 => exact HC0_2.out)
     rintro e w30 ⟨rfl, hb⟩
     refine ⟨_, rfl, ?_⟩
     replace BK212 := zb BK212 hb
     replace HB := zE (zs1 HB GE212) hb
     (try clear hb)
     (try clear hb2)
     (try clear hk)
     (try clear hi)
     refine hK.out _ _ ⟨zc0 BK212, zc1 BK212, zc2 BK212, zc3 BK212, zc4 BK212, (zw HB hw218_0), (zw HB hw219_0)⟩ (fun hHeld => ?_)
     clear hK K
     refine zN ?_
     refine zo HT_ 20 (fun K hK => ?_)
     refine goes_ Try.func70 (by kernel_rfl) rfl #[.int .i64 (wrap64 ((rd l1 x5_2) - (rd l1 (ji20)))), .int .i64 a0_0, .int .i64 t220] (by rfl) rfl rfl (by (try simp only [List.map_toArray, List.map_cons, List.map_nil]); first | done | (simp only [hji20]; rfl) | rfl | (simp only [List.length_drop, List.length_take]; rfl)) ?_
     with_reducible refine (spec_l21In.calls (wrap64 ((rd l1 x5_2) - (rd l1 (ji20)))) a0_0 t220 true _ A24.out).mono ?_
     rintro e w' ⟨rfl, ⟨nd, rfl⟩⟩
     refine ⟨_, rfl, ?_⟩
     refine hK.out _ _ ⟨zc0 BK212, zc1 BK212, zc2 BK212, zc3 BK212, zc4 BK212, (zw HB hw218_0), (zw HB hw219_0)⟩ (fun hHeld => ?_)
     clear hK K
     refine zN ?_
     refine zq HT_ 21 ?_
     refine zq HT_ 22 ?_
     refine done_ (done_of HT_.out (by kernel_rfl)) ?_
     try go_wp2
     go_roundg k2
     case measure => have := HJ2.out; have := HK2.out; omega
     case rel => exact ⟨(wrap64 (x5_2 + 1)), zi, H', ⟨by have := HJ2.out; have := HK2.out; omega⟩, ⟨zh BK212⟩, ⟨zs1 HB GE212⟩⟩
end Go.Proofs.Ytidenmcoilmbcaa.QFnExactFlyGo
