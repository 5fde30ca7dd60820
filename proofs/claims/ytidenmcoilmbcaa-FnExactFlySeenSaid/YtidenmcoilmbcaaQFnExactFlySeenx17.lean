/- The walk of what the law FnExactFlySeen reaches: laid by a program of this session (ownprint.py). -/
import Derived.Test.YtidenmcoilmbcaaQFnExactFlySeenx0
import Derived.Test.YtidenmcoilmbcaaQFnExactFlySeenx1
import Derived.Test.YtidenmcoilmbcaaQFnExactFlySeenx2
import Derived.Test.YtidenmcoilmbcaaQFnExactFlySeenx3
import Derived.Test.YtidenmcoilmbcaaQFnExactFlySeenx9
import Derived.Test.YtidenmcoilmbcaaQFnExactFlySeenx16
namespace Go.Proofs.Ytidenmcoilmbcaa.QFnExactFlySeen
open Go.RowKit Go.Proofs.YtidenmcoilmbcaaW.PrintWords Go.Proofs.YtidenmcoilmbcaaW.PrintLast Go.Proofs.YtidenmcoilmbcaaW.PrintMore Go.Proofs.Ytidenmcoilmbcaa.Z
attribute [local go_sem] max2_int min2_int max_two min_two max_three min_three max_four min_four zdn   -- for this text's walks alone
set_option linter.unusedVariables false
set_option linter.unusedSimpArgs false
mutual
def laws_FnExactFlySeen.j0 : Nat → Int → Int → Bool → Bool → Bool → Int → Int → List (S104) → Int → Int → Int → Int → List (S88) → Int → Int → Int → Int → List (S88) → Int → Int → Int → Int → List (S88) → Int → Int → Option (Bool)
 | 0, _, _, _, _, _, _, _, _, _, _, _, _, _, _, _, _, _, _, _, _, _, _, _, _, _ => none
 | k + 1, x1, x2, x9, x12, x48, x378000, x378001, x378002, x378003, x378004, x395000, x395001, x395002, x395003, x395004, x403000, x403001, x403002, x403003, x403004, x412000, x412001, x412002, x412003, x412004 => if x48 = true then (some false) else ((laws_toFlyPath.f k x378000 x378001 x378002 x378003 x378004).bind fun bt413 => ((laws_eqFlyPath.f k x403000 x403001 x403002 x403003 x403004 bt413.1 bt413.2.1 bt413.2.2.1 bt413.2.2.2.1 bt413.2.2.2.2).bind fun t420 => (if t420 = true then ((laws_markFlyPath.f k x403000 x403001 x403002 x403003 x403004 1).bind fun bt421 => (if bt421.1 < 0 then (laws_FnExactFlySeen.j1 k x1 x2 x9 true x378000 x378001 x378002 x378003 x378004 x395000 x395001 x395002 x395003 x395004 x412000 x412001 x412002 x412003 x412004) else ((laws_eqFlyPath.f k x412000 x412001 x412002 x412003 x412004 x395000 x395001 x395002 x395003 x395004).bind fun t423 => (if t423 = true then (laws_FnExactFlySeen.j1 k x1 x2 x9 (x12 != x9) x378000 x378001 x378002 x378003 x378004 x395000 x395001 x395002 x395003 x395004 x412000 x412001 x412002 x412003 x412004) else (laws_FnExactFlySeen.j1 k x1 x2 x9 true x378000 x378001 x378002 x378003 x378004 x395000 x395001 x395002 x395003 x395004 x412000 x412001 x412002 x412003 x412004))))) else (some false))))
def laws_FnExactFlySeen.j1 : Nat → Int → Int → Bool → Bool → Int → Int → List (S104) → Int → Int → Int → Int → List (S88) → Int → Int → Int → Int → List (S88) → Int → Int → Option (Bool)
 | 0, _, _, _, _, _, _, _, _, _, _, _, _, _, _, _, _, _, _, _ => none
 | k + 1, x1, x2, x9, x69, x378000, x378001, x378002, x378003, x378004, x395000, x395001, x395002, x395003, x395004, x412000, x412001, x412002, x412003, x412004 => if x69 = true then (some false) else ((laws_markFlyPath.f k x412000 x412001 x412002 x412003 x412004 1).bind fun bt424 => ((laws_heldFlyPath.f k x412000 x412001 bt424.2 x412003 x412004 1).bind fun t426 => (if t426 < 0 then (some false) else (if t426 = bt424.1 then ((laws_toFlyPath.f k x378000 x378001 x378002 x378003 x378004).bind fun bt427 => ((impl_FlySeen.f k bt427.1 bt427.2.1 bt427.2.2.1 bt427.2.2.2.1 bt427.2.2.2.2 x1 x2).bind fun bt434 => ((laws_eqFlyPath.f k bt434.1 bt434.2.1 bt434.2.2.1 bt434.2.2.2.1 bt434.2.2.2.2.1 x395000 x395001 x395002 x395003 x395004).bind fun t443 => (if t443 = true then (laws_FnExactFlySeen.j2 k bt424.1 (bt434.2.2.2.2.2 != x9) x412000 x412001 bt424.2 x412003 x412004) else (laws_FnExactFlySeen.j2 k bt424.1 true x412000 x412001 bt424.2 x412003 x412004))))) else (some false)))))
def laws_FnExactFlySeen.j2 : Nat → Int → Bool → Int → Int → List (S88) → Int → Int → Option (Bool)
 | 0, _, _, _, _, _, _, _ => none
 | k + 1, x14, x97, x412000, x412001, x412002, x412003, x412004 => if x97 = true then (some false) else ((laws_heldFlyPath.f k x412000 x412001 x412002 x412003 x412004 1).bind fun t444 => (if t444 < 0 then (some false) else (if t444 = x14 then (some true) else (some false))))
end
def laws_FnExactFlySeen.f (k : Nat) (a0_0 : Int) (a0_1 : Int) (l0_2 : List (S104)) (a0_3 : Int) (a0_4 : Int) (a1 : Int) (a2 : Int) : Option (Bool) := (laws_szFlyPath.f a0_0 a0_1 l0_2 a0_3 a0_4 1048576).bind fun t378 => (if t378 < 0 then (some true) else ((laws_toFlyPath.f k a0_0 a0_1 l0_2 a0_3 a0_4).bind fun bt379 => ((spec_FlySeen.f k bt379.1 bt379.2.1 bt379.2.2.1 bt379.2.2.2.1 bt379.2.2.2.2 a1 a2).bind fun bt386 => ((laws_toFlyPath.f k a0_0 a0_1 l0_2 a0_3 a0_4).bind fun bt395 => ((impl_FlySeen.f k bt395.1 bt395.2.1 bt395.2.2.1 bt395.2.2.2.1 bt395.2.2.2.2 a1 a2).bind fun bt403 => ((laws_eqFlyPath.f k bt403.1 bt403.2.1 bt403.2.2.1 bt403.2.2.2.1 bt403.2.2.2.2.1 bt386.1 bt386.2.1 bt386.2.2.1 bt386.2.2.2.1 bt386.2.2.2.2.1).bind fun t412 => (if t412 = true then (laws_FnExactFlySeen.j0 k a1 a2 bt386.2.2.2.2.2 bt403.2.2.2.2.2 (bt403.2.2.2.2.2 != bt386.2.2.2.2.2) a0_0 a0_1 l0_2 a0_3 a0_4 bt386.1 bt386.2.1 bt386.2.2.1 bt386.2.2.2.1 bt386.2.2.2.2.1 bt395.1 bt395.2.1 bt395.2.2.1 bt395.2.2.2.1 bt395.2.2.2.2 bt403.1 bt403.2.1 bt403.2.2.1 bt403.2.2.2.1 bt403.2.2.2.2.1) else (laws_FnExactFlySeen.j0 k a1 a2 bt386.2.2.2.2.2 bt403.2.2.2.2.2 true a0_0 a0_1 l0_2 a0_3 a0_4 bt386.1 bt386.2.1 bt386.2.2.1 bt386.2.2.2.1 bt386.2.2.2.2.1 bt395.1 bt395.2.1 bt395.2.2.1 bt395.2.2.2.1 bt395.2.2.2.2 bt403.1 bt403.2.1 bt403.2.2.1 bt403.2.2.2.1 bt403.2.2.2.2.1))))))))
set_option maxHeartbeats 8000000 in
set_option maxRecDepth 100000 in
theorem laws_FnExactFlySeen.calls (k : Nat) (a0_0 : Int) (a0_1 : Int) (A0_2 : Option Addr) (c0_2 : Nat) (l0_2 : List (S104)) (a0_3 : Int) (a0_4 : Int) (a1 : Int) (a2 : Int) (r : Bool) (w : World) (hr0_2 : Kd.C k104 w A0_2 l0_2.length l0_2) (hc0_2 : l0_2.length ≤ c0_2) (h : laws_FnExactFlySeen.f k a0_0 a0_1 l0_2 a0_3 a0_4 a1 a2 = some r) :
 Calls Try.prog 14 #[.agg #[.int .i64 a0_0, .int .i64 a0_1, .slice A0_2 l0_2.length c0_2, .int .i64 a0_3, .int .i64 a0_4], .int .i64 a1, .int .i64 a2] w fun e w' => e = .returned (.bool r) ∧ Below w.heap.size w w' := by
 have hu26 := Try.underlying26
 have hu34 := Try.underlying34
 have HR0_2 := Aside0.mk hr0_2
 have HC0_2 := Aside0.mk hc0_2
 clear hr0_2 hc0_2
 have HB := Aside0.mk (Below.refl w.heap.size w)
 have H : ((laws_szFlyPath.f a0_0 a0_1 l0_2 a0_3 a0_4 1048576).bind fun t378 => (if t378 < 0 then (some true) else ((laws_toFlyPath.f k a0_0 a0_1 l0_2 a0_3 a0_4).bind fun bt379 => ((spec_FlySeen.f k bt379.1 bt379.2.1 bt379.2.2.1 bt379.2.2.2.1 bt379.2.2.2.2 a1 a2).bind fun bt386 => ((laws_toFlyPath.f k a0_0 a0_1 l0_2 a0_3 a0_4).bind fun bt395 => ((impl_FlySeen.f k bt395.1 bt395.2.1 bt395.2.2.1 bt395.2.2.2.1 bt395.2.2.2.2 a1 a2).bind fun bt403 => ((laws_eqFlyPath.f k bt403.1 bt403.2.1 bt403.2.2.1 bt403.2.2.2.1 bt403.2.2.2.2.1 bt386.1 bt386.2.1 bt386.2.2.1 bt386.2.2.2.1 bt386.2.2.2.2.1).bind fun t412 => (if t412 = true then (laws_FnExactFlySeen.j0 k a1 a2 bt386.2.2.2.2.2 bt403.2.2.2.2.2 (bt403.2.2.2.2.2 != bt386.2.2.2.2.2) a0_0 a0_1 l0_2 a0_3 a0_4 bt386.1 bt386.2.1 bt386.2.2.1 bt386.2.2.2.1 bt386.2.2.2.2.1 bt395.1 bt395.2.1 bt395.2.2.1 bt395.2.2.2.1 bt395.2.2.2.2 bt403.1 bt403.2.1 bt403.2.2.1 bt403.2.2.2.1 bt403.2.2.2.2.1) else (laws_FnExactFlySeen.j0 k a1 a2 bt386.2.2.2.2.2 bt403.2.2.2.2.2 true a0_0 a0_1 l0_2 a0_3 a0_4 bt386.1 bt386.2.1 bt386.2.2.1 bt386.2.2.2.1 bt386.2.2.2.2.1 bt395.1 bt395.2.1 bt395.2.2.1 bt395.2.2.2.1 bt395.2.2.2.2 bt403.1 bt403.2.1 bt403.2.2.1 bt403.2.2.2.1 bt403.2.2.2.2.1))))))))) = some r := h
 clear h
 replace H := zbd H; obtain ⟨t378, A4, H⟩ := H
 by_cases c5 : t378 < 0
 ·rw [if_pos c5] at H
  have c5b0 : decide (t378 < 0) = true := decide_eq_true c5
  clear c5
  obtain rfl := Option.some.inj H
  go_enter Try.func14, Try.ntmps14
  go_wp2_with (first | ((with_reducible refine gate_dst (N := 3) rfl ?_); refine zbx 3 #[.int .i64 a0_0, .int .i64 a0_1, .slice A0_2 l0_2.length c0_2, .int .i64 a0_3, .int .i64 a0_4] 26 ?_; intro gb377 hg w6 hbox hb; have BK377 := zA hbox; have GW377 := zgs hg (zs0 HB); have GE377 := zgs hg (zs0 HB); replace HB := zE (zs0 HB) hb; clear hb hbox hg; obtain ⟨hcz7_0, hcz7_1, hcz7_2, hcz7_3, hcz7_4⟩ := zd5 BK377; obtain ⟨hfz7_0, hfz7_1, hfz7_2, hfz7_3, hfz7_4⟩ := zn5 BK377) | ((with_reducible refine gate_callee (f := 15) rfl ?_); refine zgl (N := some 20) Try.func15 #[.agg #[.int .i64 a0_0, .int .i64 a0_1, .slice A0_2 l0_2.length c0_2, .int .i64 a0_3, .int .i64 a0_4], .int .i64 1048576] ?_; (with_reducible refine (laws_szFlyPath.calls a0_0 a0_1 _ _ l0_2 a0_3 a0_4 1048576 t378 _ ?side1 ?side2 A4.out).mono ?_); (case side1 => exact zC HR0_2 HB); (case side2 => exact HC0_2.out); rintro e w8 ⟨rfl, hb⟩; refine ⟨_, rfl, ?_⟩; replace BK377 := zb BK377 hb; replace HB := zE (zs1 HB GE377) hb; (try clear hb); (try clear hb2); (try clear hk); (try clear hi)))
  go_ret
  exact ⟨ze, zs1 HB GE377⟩
 rw [if_neg c5] at H
 have c5b0 : decide (t378 < 0) = false := decide_eq_false c5
 clear c5
 replace H := Option.bind_eq_some_iff.mp H
 obtain ⟨⟨t379, t380, t381, t384, t385⟩, A90, H⟩ := H
 replace H : ((spec_FlySeen.f k t379 t380 t381 t384 t385 a1 a2).bind fun bt386 => ((laws_toFlyPath.f k a0_0 a0_1 l0_2 a0_3 a0_4).bind fun bt395 => ((impl_FlySeen.f k bt395.1 bt395.2.1 bt395.2.2.1 bt395.2.2.2.1 bt395.2.2.2.2 a1 a2).bind fun bt403 => ((laws_eqFlyPath.f k bt403.1 bt403.2.1 bt403.2.2.1 bt403.2.2.2.1 bt403.2.2.2.2.1 bt386.1 bt386.2.1 bt386.2.2.1 bt386.2.2.2.1 bt386.2.2.2.2.1).bind fun t412 => (if t412 = true then (laws_FnExactFlySeen.j0 k a1 a2 bt386.2.2.2.2.2 bt403.2.2.2.2.2 (bt403.2.2.2.2.2 != bt386.2.2.2.2.2) a0_0 a0_1 l0_2 a0_3 a0_4 bt386.1 bt386.2.1 bt386.2.2.1 bt386.2.2.2.1 bt386.2.2.2.2.1 bt395.1 bt395.2.1 bt395.2.2.1 bt395.2.2.2.1 bt395.2.2.2.2 bt403.1 bt403.2.1 bt403.2.2.1 bt403.2.2.2.1 bt403.2.2.2.2.1) else (laws_FnExactFlySeen.j0 k a1 a2 bt386.2.2.2.2.2 bt403.2.2.2.2.2 true a0_0 a0_1 l0_2 a0_3 a0_4 bt386.1 bt386.2.1 bt386.2.2.1 bt386.2.2.2.1 bt386.2.2.2.2.1 bt395.1 bt395.2.1 bt395.2.2.1 bt395.2.2.2.1 bt395.2.2.2.2 bt403.1 bt403.2.1 bt403.2.2.1 bt403.2.2.2.1 bt403.2.2.2.2.1)))))) = some r := H
 have A9 := Aside0.mk A90
 clear A90
 replace H := Option.bind_eq_some_iff.mp H
 obtain ⟨⟨t386, t387, t388, t391, t392, t393⟩, A100, H⟩ := H
 replace H : ((laws_toFlyPath.f k a0_0 a0_1 l0_2 a0_3 a0_4).bind fun bt395 => ((impl_FlySeen.f k bt395.1 bt395.2.1 bt395.2.2.1 bt395.2.2.2.1 bt395.2.2.2.2 a1 a2).bind fun bt403 => ((laws_eqFlyPath.f k bt403.1 bt403.2.1 bt403.2.2.1 bt403.2.2.2.1 bt403.2.2.2.2.1 t386 t387 t388 t391 t392).bind fun t412 => (if t412 = true then (laws_FnExactFlySeen.j0 k a1 a2 t393 bt403.2.2.2.2.2 (bt403.2.2.2.2.2 != t393) a0_0 a0_1 l0_2 a0_3 a0_4 t386 t387 t388 t391 t392 bt395.1 bt395.2.1 bt395.2.2.1 bt395.2.2.2.1 bt395.2.2.2.2 bt403.1 bt403.2.1 bt403.2.2.1 bt403.2.2.2.1 bt403.2.2.2.2.1) else (laws_FnExactFlySeen.j0 k a1 a2 t393 bt403.2.2.2.2.2 true a0_0 a0_1 l0_2 a0_3 a0_4 t386 t387 t388 t391 t392 bt395.1 bt395.2.1 bt395.2.2.1 bt395.2.2.2.1 bt395.2.2.2.2 bt403.1 bt403.2.1 bt403.2.2.1 bt403.2.2.2.1 bt403.2.2.2.2.1))))) = some r := H
 have A10 := Aside0.mk A100
 clear A100
 replace H := Option.bind_eq_some_iff.mp H
 obtain ⟨⟨t395, t396, t397, t400, t401⟩, A110, H⟩ := H
 replace H : ((impl_FlySeen.f k t395 t396 t397 t400 t401 a1 a2).bind fun bt403 => ((laws_eqFlyPath.f k bt403.1 bt403.2.1 bt403.2.2.1 bt403.2.2.2.1 bt403.2.2.2.2.1 t386 t387 t388 t391 t392).bind fun t412 => (if t412 = true then (laws_FnExactFlySeen.j0 k a1 a2 t393 bt403.2.2.2.2.2 (bt403.2.2.2.2.2 != t393) a0_0 a0_1 l0_2 a0_3 a0_4 t386 t387 t388 t391 t392 t395 t396 t397 t400 t401 bt403.1 bt403.2.1 bt403.2.2.1 bt403.2.2.2.1 bt403.2.2.2.2.1) else (laws_FnExactFlySeen.j0 k a1 a2 t393 bt403.2.2.2.2.2 true a0_0 a0_1 l0_2 a0_3 a0_4 t386 t387 t388 t391 t392 t395 t396 t397 t400 t401 bt403.1 bt403.2.1 bt403.2.2.1 bt403.2.2.2.1 bt403.2.2.2.2.1)))) = some r := H
 have A11 := Aside0.mk A110
 clear A110
 replace H := Option.bind_eq_some_iff.mp H
 obtain ⟨⟨t403, t404, t405, t408, t409, t410⟩, A120, H⟩ := H
 replace H : ((laws_eqFlyPath.f k t403 t404 t405 t408 t409 t386 t387 t388 t391 t392).bind fun t412 => (if t412 = true then (laws_FnExactFlySeen.j0 k a1 a2 t393 t410 (t410 != t393) a0_0 a0_1 l0_2 a0_3 a0_4 t386 t387 t388 t391 t392 t395 t396 t397 t400 t401 t403 t404 t405 t408 t409) else (laws_FnExactFlySeen.j0 k a1 a2 t393 t410 true a0_0 a0_1 l0_2 a0_3 a0_4 t386 t387 t388 t391 t392 t395 t396 t397 t400 t401 t403 t404 t405 t408 t409))) = some r := H
 have A12 := Aside0.mk A120
 clear A120
 have HC13 := Aside0.mk H
 clear H
 go_enter Try.func14, Try.ntmps14
 go_upto_region 8 with (first | ((with_reducible refine gate_dst (N := 3) rfl ?_); refine zbx 3 #[.int .i64 a0_0, .int .i64 a0_1, .slice A0_2 l0_2.length c0_2, .int .i64 a0_3, .int .i64 a0_4] 26 ?_; intro gb377 hg w14 hbox hb; have BK377 := zA hbox; have GW377 := zgs hg (zs0 HB); have GE377 := zgs hg (zs0 HB); replace HB := zE (zs0 HB) hb; clear hb hbox hg; obtain ⟨hcz15_0, hcz15_1, hcz15_2, hcz15_3, hcz15_4⟩ := zd5 BK377; obtain ⟨hfz15_0, hfz15_1, hfz15_2, hfz15_3, hfz15_4⟩ := zn5 BK377) | ((with_reducible refine gate_callee (f := 15) rfl ?_); refine zgl (N := some 20) Try.func15 #[.agg #[.int .i64 a0_0, .int .i64 a0_1, .slice A0_2 l0_2.length c0_2, .int .i64 a0_3, .int .i64 a0_4], .int .i64 1048576] ?_; (with_reducible refine (laws_szFlyPath.calls a0_0 a0_1 _ _ l0_2 a0_3 a0_4 1048576 t378 _ ?side1 ?side2 A4.out).mono ?_); (case side1 => exact zC HR0_2 HB); (case side2 => exact HC0_2.out); rintro e w16 ⟨rfl, hb⟩; refine ⟨_, rfl, ?_⟩; replace BK377 := zb BK377 hb; replace HB := zE (zs1 HB GE377) hb; (try clear hb); (try clear hb2); (try clear hk); (try clear hi); obtain ⟨hcz17_0, hcz17_1, hcz17_2, hcz17_3, hcz17_4⟩ := zd5 BK377; obtain ⟨hfz17_0, hfz17_1, hfz17_2, hfz17_3, hfz17_4⟩ := zn5 BK377) | ((with_reducible refine gate_callee (f := 17) rfl ?_); refine zgl (N := some 25) Try.func17 #[.agg #[.int .i64 a0_0, .int .i64 a0_1, .slice A0_2 l0_2.length c0_2, .int .i64 a0_3, .int .i64 a0_4]] ?_; (with_reducible refine (laws_toFlyPath.calls k a0_0 a0_1 _ _ l0_2 a0_3 a0_4 t379 t380 t381 t384 t385 _ ?side1 ?side2 A9.out).mono ?_); (case side1 => exact zC HR0_2 HB); (case side2 => exact HC0_2.out); rintro e w18 ⟨v382, rfl, ho0, hb⟩; refine ⟨_, rfl, ?_⟩; have HO383 := Aside0.mk (Kd.R_lower ho0 (below_size (zs1 HB GE377))); replace BK377 := zb BK377 hb; replace HB := zE (zs1 HB GE377) hb; (try clear hb); (try clear hb2); (try clear hk); (try clear hi); (try clear ho0); obtain ⟨Ao19, co19, eo19⟩ := Kd.R_slice HO383.out; subst eo19) | ((with_reducible refine gate_callee (f := 50) rfl ?_); refine zgl (N := some 28) Try.func50 #[.agg #[.int .i64 t379, .int .i64 t380, .slice Ao19 t381.length co19, .int .i64 t384, .int .i64 t385], .int .i64 a1, .int .i64 a2] ?_; (with_reducible refine (spec_FlySeen.calls k t379 t380 _ _ t381 t384 t385 a1 a2 t386 t387 t388 t391 t392 t393 _ ?side1 ?side2 A10.out).mono ?_); (case side1 => repeat (first | exact (Kd.R_reads' HO383.out).2.2 | (with_reducible refine Kd.C_alloc ?_ _) | (with_reducible refine Kd.C_drewN ?_ _) | (with_reducible refine Kd.C_drew ?_))); (case side2 => exact (Kd.R_reads' HO383.out).2.1); rintro e w20 ⟨v389, rfl, ho0, hb⟩; refine ⟨_, rfl, ?_⟩; have HO390 := Aside0.mk (Kd.R_lower (Kd.R_new' ho0 (Kd.R_lt (zr HO383))) (below_size (zs1 HB GE377))); replace HO383 := Aside0.mk (Kd.R_elder' (zr HO383) (Kd.R_base ho0) hb); replace BK377 := zb BK377 hb; replace HB := zE (zs1 HB GE377) hb; (try clear hb); (try clear hb2); (try clear hk); (try clear hi); (try clear ho0)) | ((with_reducible refine gate_dst (N := 8) rfl ?_); refine zbx 8 #[.int .i64 0, .int .i64 0, .slice none 0 0, .int .i64 0, .int .i64 0] 34 ?_; intro gb394 hg w21 hbox hb; have BK394 := zA hbox; have GW394 := zgs hg (zs1 HB GE377); have GE394 := zgs hg (zs1 HB GE377); have NB377_394 := zne hg BK377; have NB394_377 := znf hg BK377; replace HO383 := Aside0.mk (Kd.R_below (zr HO383) hb); replace HO390 := Aside0.mk (Kd.R_below (zr HO390) hb); replace BK377 := zb BK377 hb; replace HB := zE (zs1 HB GE377) hb; clear hb hbox hg; have hnb22 := NB394_377.out; have hnc22 := NB377_394.out; obtain ⟨hcz23_0, hcz23_1, hcz23_2, hcz23_3, hcz23_4⟩ := zd5 BK394; obtain ⟨hfz23_0, hfz23_1, hfz23_2, hfz23_3, hfz23_4⟩ := zn5 BK394; obtain ⟨Ao24, co24, eo24⟩ := Kd.R_slice HO390.out; subst eo24; obtain ⟨hcz25_0, hcz25_1, hcz25_2, hcz25_3, hcz25_4⟩ := zd5 BK377; obtain ⟨hfz25_0, hfz25_1, hfz25_2, hfz25_3, hfz25_4⟩ := zn5 BK377) | ((with_reducible refine gate_callee (f := 17) rfl ?_); refine zgl (N := some 32) Try.func17 #[.agg #[.int .i64 a0_0, .int .i64 a0_1, .slice A0_2 l0_2.length c0_2, .int .i64 a0_3, .int .i64 a0_4]] ?_; (with_reducible refine (laws_toFlyPath.calls k a0_0 a0_1 _ _ l0_2 a0_3 a0_4 t395 t396 t397 t400 t401 _ ?side1 ?side2 A11.out).mono ?_); (case side1 => exact Kd.C_below HR0_2.out (zs2 HB GE377 GE394)); (case side2 => exact HC0_2.out); rintro e w26 ⟨v398, rfl, ho0, hb⟩; refine ⟨_, rfl, ?_⟩; have HO399 := Aside0.mk (Kd.R_lower (Kd.R_new' (Kd.R_new' ho0 (Kd.R_lt (zRf HO383 BK394 (fun _ h_ => h_.1)))) (Kd.R_lt (zRf HO390 BK394 (fun _ h_ => h_.1)))) (below_size (zs2 HB GE377 GE394))); replace HO383 := Aside0.mk (Kd.R_elder' (zRf HO383 BK394 (fun _ h_ => h_.1)) (Kd.R_base ho0) hb); replace HO390 := Aside0.mk (Kd.R_elder' (zRf HO390 BK394 (fun _ h_ => h_.1)) (Kd.R_base ho0) hb); replace BK377 := Aside0.mk (blk_below (g := gb377) (o := .cells #[.int .i64 a0_0, .int .i64 a0_1, .slice A0_2 l0_2.length c0_2, .int .i64 a0_3, .int .i64 a0_4] 26 (0, 0)) (zpf BK377 NB377_394) hb); replace BK394 := Aside0.mk (blk_below (g := gb394) (o := .cells #[.int .i64 t386, .int .i64 t387, .slice Ao24 t388.length co24, .int .i64 t391, .int .i64 t392] 34 (0, 0)) (zpb BK394) hb); replace HB := zE (zs2 HB GE377 GE394) hb; (try clear hb); (try clear hb2); (try clear hk); (try clear hi); (try clear ho0)) | ((with_reducible refine gate_dst (N := 10) rfl ?_); refine zbx 10 #[.int .i64 0, .int .i64 0, .slice none 0 0, .int .i64 0, .int .i64 0] 34 ?_; intro gb402 hg w27 hbox hb; have BK402 := zA hbox; have GW402 := zgs hg (zs2 HB GE377 GE394); have GE402 := zgs hg (zs2 HB GE377 GE394); have NB377_402 := zne hg BK377; have NB402_377 := znf hg BK377; have NB394_402 := zne hg BK394; have NB402_394 := znf hg BK394; replace HO383 := Aside0.mk (Kd.R_below (zr HO383) hb); replace HO390 := Aside0.mk (Kd.R_below (zr HO390) hb); replace HO399 := Aside0.mk (Kd.R_below (zr HO399) hb); replace BK377 := zb BK377 hb; replace BK394 := zb BK394 hb; replace HB := zE (zs2 HB GE377 GE394) hb; clear hb hbox hg; have hnb28 := NB402_377.out; have hnc28 := NB377_402.out; have hnb29 := NB402_394.out; have hnc29 := NB394_402.out; obtain ⟨hcz30_0, hcz30_1, hcz30_2, hcz30_3, hcz30_4⟩ := zd5 BK402; obtain ⟨hfz30_0, hfz30_1, hfz30_2, hfz30_3, hfz30_4⟩ := zn5 BK402; obtain ⟨Ao31, co31, eo31⟩ := Kd.R_slice HO399.out; subst eo31) | ((with_reducible refine gate_callee (f := 51) rfl ?_); refine zgl (N := some 37) Try.func51 #[.agg #[.int .i64 t395, .int .i64 t396, .slice Ao31 t397.length co31, .int .i64 t400, .int .i64 t401], .int .i64 a1, .int .i64 a2] ?_; (with_reducible refine (impl_FlySeen.calls k t395 t396 _ _ t397 t400 t401 a1 a2 t403 t404 t405 t408 t409 t410 _ ?side1 ?side2 A12.out).mono ?_); (case side1 => refine (Kd.R_reads' (e := 88) (base := w.heap.size) (ok := fun k_ => ((True ∧ some k_ ≠ (.slice Ao19 t381.length co19 : Value).ownBlock) ∧ some k_ ≠ (.slice Ao24 t388.length co24 : Value).ownBlock)) (n := t397.length) (c := co31) ?_).2.2; exact (zRf HO399 BK402 (fun _ h_ => h_.1))); (case side2 => exact (Kd.R_reads' HO399.out).2.1); rintro e w32 ⟨v406, rfl, ho0, hb⟩; refine ⟨_, rfl, ?_⟩; have HO407 := Aside0.mk (Kd.R_lower (Kd.R_new' (Kd.R_new' (Kd.R_new' ho0 (Kd.R_lt (zRf HO383 BK402 (fun _ h_ => h_.1)))) (Kd.R_lt (zRf HO390 BK402 (fun _ h_ => h_.1)))) (Kd.R_lt (zRf HO399 BK402 (fun _ h_ => h_.1)))) (below_size (zs3 HB GE377 GE394 GE402))); replace HO383 := Aside0.mk (Kd.R_elder' (zRf HO383 BK402 (fun _ h_ => h_.1)) (Kd.R_base ho0) hb); replace HO390 := Aside0.mk (Kd.R_elder' (zRf HO390 BK402 (fun _ h_ => h_.1)) (Kd.R_base ho0) hb); replace HO399 := Aside0.mk (Kd.R_elder' (zRf HO399 BK402 (fun _ h_ => h_.1)) (Kd.R_base ho0) hb); replace BK377 := Aside0.mk (blk_below (g := gb377) (o := .cells #[.int .i64 a0_0, .int .i64 a0_1, .slice A0_2 l0_2.length c0_2, .int .i64 a0_3, .int .i64 a0_4] 26 (0, 0)) (zpf BK377 NB377_402) hb); replace BK394 := Aside0.mk (blk_below (g := gb394) (o := .cells #[.int .i64 t386, .int .i64 t387, .slice Ao24 t388.length co24, .int .i64 t391, .int .i64 t392] 34 (0, 0)) (zpf BK394 NB394_402) hb); replace BK402 := Aside0.mk (blk_below (g := gb402) (o := .cells #[.int .i64 t395, .int .i64 t396, .slice Ao31 t397.length co31, .int .i64 t400, .int .i64 t401] 34 (0, 0)) (zpb BK402) hb); replace HB := zE (zs3 HB GE377 GE394 GE402) hb; (try clear hb); (try clear hb2); (try clear hk); (try clear hi); (try clear ho0)) | ((with_reducible refine gate_dst (N := 11) rfl ?_); refine zbx 11 #[.int .i64 0, .int .i64 0, .slice none 0 0, .int .i64 0, .int .i64 0] 34 ?_; intro gb411 hg w33 hbox hb; have BK411 := zA hbox; have GW411 := zgs hg (zs3 HB GE377 GE394 GE402); have GE411 := zgs hg (zs3 HB GE377 GE394 GE402); have NB377_411 := zne hg BK377; have NB411_377 := znf hg BK377; have NB394_411 := zne hg BK394; have NB411_394 := znf hg BK394; have NB402_411 := zne hg BK402; have NB411_402 := znf hg BK402; replace HO383 := Aside0.mk (Kd.R_below (zr HO383) hb); replace HO390 := Aside0.mk (Kd.R_below (zr HO390) hb); replace HO399 := Aside0.mk (Kd.R_below (zr HO399) hb); replace HO407 := Aside0.mk (Kd.R_below (zr HO407) hb); replace BK377 := zb BK377 hb; replace BK394 := zb BK394 hb; replace BK402 := zb BK402 hb; replace HB := zE (zs3 HB GE377 GE394 GE402) hb; clear hb hbox hg; have hnb34 := NB411_377.out; have hnc34 := NB377_411.out; have hnb35 := NB411_394.out; have hnc35 := NB394_411.out; have hnb36 := NB411_402.out; have hnc36 := NB402_411.out; obtain ⟨hcz37_0, hcz37_1, hcz37_2, hcz37_3, hcz37_4⟩ := zd5 BK411; obtain ⟨hfz37_0, hfz37_1, hfz37_2, hfz37_3, hfz37_4⟩ := zn5 BK411; obtain ⟨Ao38, co38, eo38⟩ := Kd.R_slice HO407.out; subst eo38))
 (try simp only [Act.put, List.setIfInBounds_toArray, List.set_cons_zero, List.set_cons_succ])
 go_cut [48] (fun v48 wc => ∃ (kq : Nat) (x48_12 : Bool), v48 = .bool x48_12 ∧ Aside0 (laws_FnExactFlySeen.j0 kq a1 a2 t393 t410 x48_12 a0_0 a0_1 l0_2 a0_3 a0_4 t386 t387 t388 t391 t392 t395 t396 t397 t400 t401 t403 t404 t405 t408 t409 = some r) ∧ Aside0 (kq ≤ k) ∧ Aside0 (Kd.R k88 88 wc w.heap.size (fun k_ => some k_ ≠ ((.slice Ao31 t397.length co31) : Value).ownBlock ∧ some k_ ≠ ((.slice Ao38 t405.length co38) : Value).ownBlock) (.slice Ao24 t388.length co24) t388) ∧ Aside0 (Kd.R k88 88 wc w.heap.size (fun k_ => some k_ ≠ ((.slice Ao24 t388.length co24) : Value).ownBlock ∧ some k_ ≠ ((.slice Ao38 t405.length co38) : Value).ownBlock) (.slice Ao31 t397.length co31) t397) ∧ Aside0 (Kd.R k88 88 wc w.heap.size (fun k_ => some k_ ≠ ((.slice Ao24 t388.length co24) : Value).ownBlock ∧ some k_ ≠ ((.slice Ao31 t397.length co31) : Value).ownBlock) (.slice Ao38 t405.length co38) t405) ∧ Aside0 (wc.heap[gb377]? = some (.cells #[.int .i64 a0_0, .int .i64 a0_1, (.slice A0_2 l0_2.length c0_2), .int .i64 a0_3, .int .i64 a0_4] 26 (0, 0))) ∧ Aside0 (wc.heap[gb394]? = some (.cells #[.int .i64 t386, .int .i64 t387, (.slice Ao24 t388.length co24), .int .i64 t391, .int .i64 t392] 34 (0, 0))) ∧ Aside0 (wc.heap[gb402]? = some (.cells #[.int .i64 t395, .int .i64 t396, (.slice Ao31 t397.length co31), .int .i64 t400, .int .i64 t401] 34 (0, 0))) ∧ Aside0 (wc.heap[gb411]? = some (.cells #[.int .i64 t403, .int .i64 t404, (.slice Ao38 t405.length co38), .int .i64 t408, .int .i64 t409] 34 (0, 0))) ∧ Aside0 (Below w.heap.size w wc))
 case first =>
  have H := HC13.out
  clear HC13
  replace H := zbd H; obtain ⟨t412, A39, H⟩ := H
  by_cases c40 : t412 = true
  ·subst c40
   have H1 : (laws_FnExactFlySeen.j0 k a1 a2 t393 t410 (t410 != t393) a0_0 a0_1 l0_2 a0_3 a0_4 t386 t387 t388 t391 t392 t395 t396 t397 t400 t401 t403 t404 t405 t408 t409) = some r := by rw [if_pos rfl] at H; exact H
   clear H
   have H := H1
   clear H1
   have H' := Aside0.mk H
   clear H
   have hnb41 := NB411_377.out
   have hnc41 := NB377_411.out
   have hnb42 := NB411_394.out
   have hnc42 := NB394_411.out
   have hnb43 := NB411_402.out
   have hnc43 := NB402_411.out
   obtain ⟨hcz44_0, hcz44_1, hcz44_2, hcz44_3, hcz44_4⟩ := zd5 BK411
   obtain ⟨hfz44_0, hfz44_1, hfz44_2, hfz44_3, hfz44_4⟩ := zn5 BK411
   have hnb45 := NB394_377.out
   have hnc45 := NB377_394.out
   have hnb46 := NB394_402.out
   have hnc46 := NB402_394.out
   obtain ⟨hcz47_0, hcz47_1, hcz47_2, hcz47_3, hcz47_4⟩ := zd5 BK394
   obtain ⟨hfz47_0, hfz47_1, hfz47_2, hfz47_3, hfz47_4⟩ := zn5 BK394
   go_wp2_with (first | ((with_reducible refine gate_callee (f := 21) rfl ?_); refine zgl (N := some 42) Try.func21 #[.agg #[.int .i64 t403, .int .i64 t404, .slice Ao38 t405.length co38, .int .i64 t408, .int .i64 t409], .agg #[.int .i64 t386, .int .i64 t387, .slice Ao24 t388.length co24, .int .i64 t391, .int .i64 t392]] ?_; (with_reducible refine (laws_eqFlyPath.calls k t403 t404 _ _ t405 t408 t409 t386 t387 _ _ t388 t391 t392 true _ ?side1 ?side2 ?side3 ?side4 A39.out).mono ?_); (case side1 => refine (Kd.R_reads' (e := 88) (base := w.heap.size) (ok := fun k_ => (((True ∧ some k_ ≠ (.slice Ao19 t381.length co19 : Value).ownBlock) ∧ some k_ ≠ (.slice Ao24 t388.length co24 : Value).ownBlock) ∧ some k_ ≠ (.slice Ao31 t397.length co31 : Value).ownBlock)) (n := t405.length) (c := co38) ?_).2.2; exact (zRf HO407 BK411 (fun _ h_ => h_.1))); (case side2 => exact (Kd.R_reads' HO407.out).2.1); (case side3 => refine (Kd.R_reads' (e := 88) (base := w.heap.size) (ok := fun k_ => (((True ∧ some k_ ≠ (.slice Ao19 t381.length co19 : Value).ownBlock) ∧ some k_ ≠ (.slice Ao31 t397.length co31 : Value).ownBlock) ∧ some k_ ≠ (.slice Ao38 t405.length co38 : Value).ownBlock)) (n := t388.length) (c := co24) ?_).2.2; exact (zRf HO390 BK411 (fun _ h_ => h_.1))); (case side4 => exact (Kd.R_reads' HO390.out).2.1); rintro e w48 ⟨rfl, hb⟩; refine ⟨_, rfl, ?_⟩; replace HO383 := Aside0.mk (Kd.R_below (zRf HO383 BK411 (fun _ h_ => h_.1)) hb); replace HO390 := Aside0.mk (Kd.R_below (zRf HO390 BK411 (fun _ h_ => h_.1)) hb); replace HO399 := Aside0.mk (Kd.R_below (zRf HO399 BK411 (fun _ h_ => h_.1)) hb); replace HO407 := Aside0.mk (Kd.R_below (zRf HO407 BK411 (fun _ h_ => h_.1)) hb); replace BK377 := Aside0.mk (blk_below (g := gb377) (o := .cells #[.int .i64 a0_0, .int .i64 a0_1, .slice A0_2 l0_2.length c0_2, .int .i64 a0_3, .int .i64 a0_4] 26 (0, 0)) (zpf BK377 NB377_411) hb); replace BK394 := Aside0.mk (blk_below (g := gb394) (o := .cells #[.int .i64 t386, .int .i64 t387, .slice Ao24 t388.length co24, .int .i64 t391, .int .i64 t392] 34 (0, 0)) (zpf BK394 NB394_411) hb); replace BK402 := Aside0.mk (blk_below (g := gb402) (o := .cells #[.int .i64 t395, .int .i64 t396, .slice Ao31 t397.length co31, .int .i64 t400, .int .i64 t401] 34 (0, 0)) (zpf BK402 NB402_411) hb); replace BK411 := Aside0.mk (blk_below (g := gb411) (o := .cells #[.int .i64 t403, .int .i64 t404, .slice Ao38 t405.length co38, .int .i64 t408, .int .i64 t409] 34 (0, 0)) (zpb BK411) hb); replace HB := Aside0.mk (below_step (by repeat (first | (with_reducible first | exact HB.out | apply below_alloc | apply pw_below_drewN | apply below_drew1 | refine below_set ?_ GE377.out | refine below_set ?_ GE394.out | refine below_set ?_ GE402.out | refine below_set ?_ GE411.out) | exact HB.out)) hb); (try clear hb); (try clear hb2); (try clear hk); (try clear hi)))
   go_meet
   case rel => exact ⟨_, ((t410 != t393)), zi, H', ⟨by first | omega | exact Nat.le_refl _⟩, ⟨by (with_reducible repeat (first | apply Kd.R_alloc | apply Kd.R_drewN | apply Kd.R_drew)); exact Kd.R_mono HO390.out (fun _ hk => ⟨hk.1.2, hk.2⟩)⟩, ⟨by (with_reducible repeat (first | apply Kd.R_alloc | apply Kd.R_drewN | apply Kd.R_drew)); exact Kd.R_mono HO399.out (fun _ hk => ⟨hk.1.2, hk.2⟩)⟩, ⟨by (with_reducible repeat (first | apply Kd.R_alloc | apply Kd.R_drewN | apply Kd.R_drew)); exact Kd.R_mono HO407.out (fun _ hk => ⟨hk.1.2, hk.2⟩)⟩, ⟨zh BK377⟩, ⟨zh BK394⟩, ⟨zh BK402⟩, ⟨zh BK411⟩, ⟨by repeat (first | (with_reducible first | exact HB.out | apply below_alloc | apply pw_below_drewN | apply below_drew1 | refine below_set ?_ GE377.out | refine below_set ?_ GE394.out | refine below_set ?_ GE402.out | refine below_set ?_ GE411.out) | exact HB.out)⟩⟩
  replace c40 := Bool.eq_false_iff.mpr c40
  subst c40
  have H1 : (laws_FnExactFlySeen.j0 k a1 a2 t393 t410 true a0_0 a0_1 l0_2 a0_3 a0_4 t386 t387 t388 t391 t392 t395 t396 t397 t400 t401 t403 t404 t405 t408 t409) = some r := by rw [if_neg (show ¬ (false = true) by decide)] at H; exact H
  clear H
  have H := H1
  clear H1
  have H' := Aside0.mk H
  clear H
  have hnb49 := NB411_377.out
  have hnc49 := NB377_411.out
  have hnb50 := NB411_394.out
  have hnc50 := NB394_411.out
  have hnb51 := NB411_402.out
  have hnc51 := NB402_411.out
  obtain ⟨hcz52_0, hcz52_1, hcz52_2, hcz52_3, hcz52_4⟩ := zd5 BK411
  obtain ⟨hfz52_0, hfz52_1, hfz52_2, hfz52_3, hfz52_4⟩ := zn5 BK411
  have hnb53 := NB394_377.out
  have hnc53 := NB377_394.out
  have hnb54 := NB394_402.out
  have hnc54 := NB402_394.out
  obtain ⟨hcz55_0, hcz55_1, hcz55_2, hcz55_3, hcz55_4⟩ := zd5 BK394
  obtain ⟨hfz55_0, hfz55_1, hfz55_2, hfz55_3, hfz55_4⟩ := zn5 BK394
  go_wp2_with (first | ((with_reducible refine gate_callee (f := 21) rfl ?_); refine zgl (N := some 42) Try.func21 #[.agg #[.int .i64 t403, .int .i64 t404, .slice Ao38 t405.length co38, .int .i64 t408, .int .i64 t409], .agg #[.int .i64 t386, .int .i64 t387, .slice Ao24 t388.length co24, .int .i64 t391, .int .i64 t392]] ?_; (with_reducible refine (laws_eqFlyPath.calls k t403 t404 _ _ t405 t408 t409 t386 t387 _ _ t388 t391 t392 false _ ?side1 ?side2 ?side3 ?side4 A39.out).mono ?_); (case side1 => refine (Kd.R_reads' (e := 88) (base := w.heap.size) (ok := fun k_ => (((True ∧ some k_ ≠ (.slice Ao19 t381.length co19 : Value).ownBlock) ∧ some k_ ≠ (.slice Ao24 t388.length co24 : Value).ownBlock) ∧ some k_ ≠ (.slice Ao31 t397.length co31 : Value).ownBlock)) (n := t405.length) (c := co38) ?_).2.2; exact (zRf HO407 BK411 (fun _ h_ => h_.1))); (case side2 => exact (Kd.R_reads' HO407.out).2.1); (case side3 => refine (Kd.R_reads' (e := 88) (base := w.heap.size) (ok := fun k_ => (((True ∧ some k_ ≠ (.slice Ao19 t381.length co19 : Value).ownBlock) ∧ some k_ ≠ (.slice Ao31 t397.length co31 : Value).ownBlock) ∧ some k_ ≠ (.slice Ao38 t405.length co38 : Value).ownBlock)) (n := t388.length) (c := co24) ?_).2.2; exact (zRf HO390 BK411 (fun _ h_ => h_.1))); (case side4 => exact (Kd.R_reads' HO390.out).2.1); rintro e w56 ⟨rfl, hb⟩; refine ⟨_, rfl, ?_⟩; replace HO383 := Aside0.mk (Kd.R_below (zRf HO383 BK411 (fun _ h_ => h_.1)) hb); replace HO390 := Aside0.mk (Kd.R_below (zRf HO390 BK411 (fun _ h_ => h_.1)) hb); replace HO399 := Aside0.mk (Kd.R_below (zRf HO399 BK411 (fun _ h_ => h_.1)) hb); replace HO407 := Aside0.mk (Kd.R_below (zRf HO407 BK411 (fun _ h_ => h_.1)) hb); replace BK377 := Aside0.mk (blk_below (g := gb377) (o := .cells #[.int .i64 a0_0, .int .i64 a0_1, .slice A0_2 l0_2.length c0_2, .int .i64 a0_3, .int .i64 a0_4] 26 (0, 0)) (zpf BK377 NB377_411) hb); replace BK394 := Aside0.mk (blk_below (g := gb394) (o := .cells #[.int .i64 t386, .int .i64 t387, .slice Ao24 t388.length co24, .int .i64 t391, .int .i64 t392] 34 (0, 0)) (zpf BK394 NB394_411) hb); replace BK402 := Aside0.mk (blk_below (g := gb402) (o := .cells #[.int .i64 t395, .int .i64 t396, .slice Ao31 t397.length co31, .int .i64 t400, .int .i64 t401] 34 (0, 0)) (zpf BK402 NB402_411) hb); replace BK411 := Aside0.mk (blk_below (g := gb411) (o := .cells #[.int .i64 t403, .int .i64 t404, .slice Ao38 t405.length co38, .int .i64 t408, .int .i64 t409] 34 (0, 0)) (zpb BK411) hb); replace HB := Aside0.mk (below_step (by repeat (first | (with_reducible first | exact HB.out | apply below_alloc | apply pw_below_drewN | apply below_drew1 | refine below_set ?_ GE377.out | refine below_set ?_ GE394.out | refine below_set ?_ GE402.out | refine below_set ?_ GE411.out) | exact HB.out)) hb); (try clear hb); (try clear hb2); (try clear hk); (try clear hi)))
  go_meet
  case rel => exact ⟨_, (true), zi, H', ⟨by first | omega | exact Nat.le_refl _⟩, ⟨by (with_reducible repeat (first | apply Kd.R_alloc | apply Kd.R_drewN | apply Kd.R_drew)); exact Kd.R_mono HO390.out (fun _ hk => ⟨hk.1.2, hk.2⟩)⟩, ⟨by (with_reducible repeat (first | apply Kd.R_alloc | apply Kd.R_drewN | apply Kd.R_drew)); exact Kd.R_mono HO399.out (fun _ hk => ⟨hk.1.2, hk.2⟩)⟩, ⟨by (with_reducible repeat (first | apply Kd.R_alloc | apply Kd.R_drewN | apply Kd.R_drew)); exact Kd.R_mono HO407.out (fun _ hk => ⟨hk.1.2, hk.2⟩)⟩, ⟨zh BK377⟩, ⟨zh BK394⟩, ⟨zh BK402⟩, ⟨zh BK411⟩, ⟨by repeat (first | (with_reducible first | exact HB.out | apply below_alloc | apply pw_below_drewN | apply below_drew1 | refine below_set ?_ GE377.out | refine below_set ?_ GE394.out | refine below_set ?_ GE402.out | refine below_set ?_ GE411.out) | exact HB.out)⟩⟩
 case rest =>
  clear HC13
  try clear c1
  try clear c2
  try clear p2
  try clear c3
  try clear c4
  try clear c5
  try clear c5b0
  try clear c14
  try clear c15
  try clear c17
  try clear c21
  try clear c22
  try clear c28
  try clear c29
  try clear c34
  try clear c35
  try clear c36
  try clear c40
  try clear c41
  try clear c42
  try clear c43
  try clear c45
  try clear c46
  try clear c49
  try clear c50
  try clear c51
  try clear c53
  try clear c54
  try clear hcz15_0 hcz15_1 hcz15_2 hcz15_3 hcz15_4
  try clear hcz17_0 hcz17_1 hcz17_2 hcz17_3 hcz17_4
  try clear hcz23_0 hcz23_1 hcz23_2 hcz23_3 hcz23_4
  try clear hcz25_0 hcz25_1 hcz25_2 hcz25_3 hcz25_4
  try clear hcz30_0 hcz30_1 hcz30_2 hcz30_3 hcz30_4
  try clear hcz37_0 hcz37_1 hcz37_2 hcz37_3 hcz37_4
  try clear hcz44_0 hcz44_1 hcz44_2 hcz44_3 hcz44_4
  try clear hcz47_0 hcz47_1 hcz47_2 hcz47_3 hcz47_4
  try clear hcz52_0 hcz52_1 hcz52_2 hcz52_3 hcz52_4
  try clear hcz55_0 hcz55_1 hcz55_2 hcz55_3 hcz55_4
  try clear hcz7_0 hcz7_1 hcz7_2 hcz7_3 hcz7_4
  try clear hfz15_0 hfz15_1 hfz15_2 hfz15_3 hfz15_4
  try clear hfz17_0 hfz17_1 hfz17_2 hfz17_3 hfz17_4
  try clear hfz23_0 hfz23_1 hfz23_2 hfz23_3 hfz23_4
  try clear hfz25_0 hfz25_1 hfz25_2 hfz25_3 hfz25_4
  try clear hfz30_0 hfz30_1 hfz30_2 hfz30_3 hfz30_4
  try clear hfz37_0 hfz37_1 hfz37_2 hfz37_3 hfz37_4
  try clear hfz44_0 hfz44_1 hfz44_2 hfz44_3 hfz44_4
  try clear hfz47_0 hfz47_1 hfz47_2 hfz47_3 hfz47_4
  try clear hfz52_0 hfz52_1 hfz52_2 hfz52_3 hfz52_4
  try clear hfz55_0 hfz55_1 hfz55_2 hfz55_3 hfz55_4
  try clear hfz7_0 hfz7_1 hfz7_2 hfz7_3 hfz7_4
  obtain ⟨kq, x48_12, rfl, HA, HJ12, HO_395002, HO_403002, HO_412002, BK377, BK394, BK402, BK411, HB⟩ := hcut
  cases kq with
  | zero => exact absurd HA.out (by simp [laws_FnExactFlySeen.j0])
  | succ kj12 =>
   have H := HA.out
   clear HA
   simp only [laws_FnExactFlySeen.j0] at H
   by_cases c57 : x48_12 = true
   ·subst c57
    have H1 : (some false) = some r := by rw [if_pos rfl] at H; exact H
    clear H
    have H := H1
    clear H1
    obtain rfl := Option.some.inj H
    go_wp2
    go_ret
    exact ⟨ze, by repeat (first | (with_reducible first | exact HB.out | apply below_alloc | apply pw_below_drewN | apply below_drew1 | refine below_set ?_ GE377.out | refine below_set ?_ GE394.out | refine below_set ?_ GE402.out | refine below_set ?_ GE411.out) | exact HB.out)⟩
   replace c57 := Bool.eq_false_iff.mpr c57
   subst c57
   have H1 : ((laws_toFlyPath.f kj12 a0_0 a0_1 l0_2 a0_3 a0_4).bind fun bt413 => ((laws_eqFlyPath.f kj12 t395 t396 t397 t400 t401 bt413.1 bt413.2.1 bt413.2.2.1 bt413.2.2.2.1 bt413.2.2.2.2).bind fun t420 => (if t420 = true then ((laws_markFlyPath.f kj12 t395 t396 t397 t400 t401 1).bind fun bt421 => (if bt421.1 < 0 then (laws_FnExactFlySeen.j1 kj12 a1 a2 t393 true a0_0 a0_1 l0_2 a0_3 a0_4 t386 t387 t388 t391 t392 t403 t404 t405 t408 t409) else ((laws_eqFlyPath.f kj12 t403 t404 t405 t408 t409 t386 t387 t388 t391 t392).bind fun t423 => (if t423 = true then (laws_FnExactFlySeen.j1 kj12 a1 a2 t393 (t410 != t393) a0_0 a0_1 l0_2 a0_3 a0_4 t386 t387 t388 t391 t392 t403 t404 t405 t408 t409) else (laws_FnExactFlySeen.j1 kj12 a1 a2 t393 true a0_0 a0_1 l0_2 a0_3 a0_4 t386 t387 t388 t391 t392 t403 t404 t405 t408 t409))))) else (some false)))) = some r := by rw [if_neg (show ¬ (false = true) by decide)] at H; exact H
   clear H
   have H := H1
   clear H1
   replace H := Option.bind_eq_some_iff.mp H
   obtain ⟨⟨t413, t414, t415, t418, t419⟩, A580, H⟩ := H
   replace H : ((laws_eqFlyPath.f kj12 t395 t396 t397 t400 t401 t413 t414 t415 t418 t419).bind fun t420 => (if t420 = true then ((laws_markFlyPath.f kj12 t395 t396 t397 t400 t401 1).bind fun bt421 => (if bt421.1 < 0 then (laws_FnExactFlySeen.j1 kj12 a1 a2 t393 true a0_0 a0_1 l0_2 a0_3 a0_4 t386 t387 t388 t391 t392 t403 t404 t405 t408 t409) else ((laws_eqFlyPath.f kj12 t403 t404 t405 t408 t409 t386 t387 t388 t391 t392).bind fun t423 => (if t423 = true then (laws_FnExactFlySeen.j1 kj12 a1 a2 t393 (t410 != t393) a0_0 a0_1 l0_2 a0_3 a0_4 t386 t387 t388 t391 t392 t403 t404 t405 t408 t409) else (laws_FnExactFlySeen.j1 kj12 a1 a2 t393 true a0_0 a0_1 l0_2 a0_3 a0_4 t386 t387 t388 t391 t392 t403 t404 t405 t408 t409))))) else (some false))) = some r := H
   have A58 := Aside0.mk A580
   clear A580
   replace H := zbd H; obtain ⟨t420, A59, H⟩ := H
   by_cases c60 : t420 = true
   rotate_left
   ·replace c60 := Bool.eq_false_iff.mpr c60
    subst c60
    have H1 : (some false) = some r := by rw [if_neg (show ¬ (false = true) by decide)] at H; exact H
    clear H
    have H := H1
    clear H1
    obtain rfl := Option.some.inj H
    try go_wp2
    replace HO_395002 := Aside0.mk (Kd.R_drew HO_395002.out)
    replace HO_403002 := Aside0.mk (Kd.R_drew HO_403002.out)
    replace HO_412002 := Aside0.mk (Kd.R_drew HO_412002.out)
    replace BK377 := Aside0.mk (blk_drew BK377.out)
    replace BK394 := Aside0.mk (blk_drew BK394.out)
    replace BK402 := Aside0.mk (blk_drew BK402.out)
    replace BK411 := Aside0.mk (blk_drew BK411.out)
    replace HB := Aside0.mk (below_drew1 HB.out)
    refine start_ (n := 5) (S := fun w' => w'.cell? ⟨gb402, 0, none⟩ = some (.int .i64 t395) ∧ w'.cell? ⟨gb402, 1, none⟩ = some (.int .i64 t396) ∧ w'.cell? ⟨gb402, 2, none⟩ = some (.slice Ao31 t397.length co31) ∧ w'.cell? ⟨gb402, 3, none⟩ = some (.int .i64 t400) ∧ w'.cell? ⟨gb402, 4, none⟩ = some (.int .i64 t401) ∧ w'.cell? ⟨gb377, 0, none⟩ = some (.int .i64 a0_0) ∧ w'.cell? ⟨gb377, 1, none⟩ = some (.int .i64 a0_1) ∧ w'.cell? ⟨gb377, 2, none⟩ = some (.slice A0_2 l0_2.length c0_2) ∧ w'.cell? ⟨gb377, 3, none⟩ = some (.int .i64 a0_3) ∧ w'.cell? ⟨gb377, 4, none⟩ = some (.int .i64 a0_4)) (ds := []) #[false, false, false, false, false] (by kernel_rfl) rfl rfl ⟨zc0 BK402, zc1 BK402, zc2 BK402, zc3 BK402, zc4 BK402, zc0 BK377, zc1 BK377, zc2 BK377, zc3 BK377, zc4 BK377⟩ (fun hHeld => ?_)
    generalize wc.drew = w177 at HO_395002 HO_403002 HO_412002 BK377 BK394 BK402 BK411 HB hHeld ⊢
    refine take_ (i := 0) (N := some 49) (v := ?_) (a' := ?_) #[true, false, false, false, false] rfl rfl (by kernel_rfl) (fun _ _ _ h => h) (Or.inl ⟨by rfl, ?_⟩) hHeld ?_ ?_; rotate_left; exact zt10; rotate_left; exact zput
    refine take_ (i := 1) (N := some 50) (v := ?_) (a' := ?_) #[true, true, false, false, false] rfl rfl (by kernel_rfl) (fun _ _ _ h => h) (Or.inl ⟨by rfl, ?_⟩) hHeld ?_ ?_; rotate_left; exact zt10; rotate_left; exact zput
    refine one_ (i := 2) (N := some 51) #[true, true, true, false, false] rfl rfl (by kernel_rfl) (by decide) (fun K hK => ?_)
    refine zgo Try.func17 #[.agg #[.int .i64 a0_0, .int .i64 a0_1, .slice A0_2 l0_2.length c0_2, .int .i64 a0_3, .int .i64 a0_4]] ?_
    with_reducible refine (laws_toFlyPath.calls kj12 a0_0 a0_1 _ _ l0_2 a0_3 a0_4 t413 t414 t415 t418 t419 _ ?side1 ?side2 A58.out).mono ?_
    (case side1 => exact zC HR0_2 HB)
    (case side2 => exact HC0_2.out)
    rintro e w178 ⟨v416, rfl, ho0, hb⟩
    refine ⟨_, rfl, ?_⟩
    have HO417 := Aside0.mk (Kd.R_lower (Kd.R_new' (Kd.R_new' (Kd.R_new' ho0 (Kd.R_lt (zr HO_395002))) (Kd.R_lt (zr HO_403002))) (Kd.R_lt (zr HO_412002))) (below_size (by repeat (first | (with_reducible first | exact HB.out | apply below_alloc | apply pw_below_drewN | apply below_drew1 | refine below_set ?_ GE377.out | refine below_set ?_ GE394.out | refine below_set ?_ GE402.out | refine below_set ?_ GE411.out) | exact HB.out))))
    replace HO_395002 := Aside0.mk (Kd.R_elder' (zr HO_395002) (Kd.R_base ho0) hb)
    replace HO_403002 := Aside0.mk (Kd.R_elder' (zr HO_403002) (Kd.R_base ho0) hb)
    replace HO_412002 := Aside0.mk (Kd.R_elder' (zr HO_412002) (Kd.R_base ho0) hb)
    replace BK377 := zb BK377 hb
    replace BK394 := zb BK394 hb
    replace BK402 := zb BK402 hb
    replace BK411 := zb BK411 hb
    replace HB := Aside0.mk (below_step (by repeat (first | (with_reducible first | exact HB.out | apply below_alloc | apply pw_below_drewN | apply below_drew1 | refine below_set ?_ GE377.out | refine below_set ?_ GE394.out | refine below_set ?_ GE402.out | refine below_set ?_ GE411.out) | exact HB.out)) hb)
    (try clear hb)
    (try clear hb2)
    (try clear hk)
    (try clear hi)
    (try clear ho0)
    obtain ⟨Ao179, co179, eo179⟩ := Kd.R_slice HO417.out
    (first | subst eo179 | (injection eo179 with f1_ f2_ f3_; have f4_ := f1_.symm; have f5_ := f3_.symm; clear f1_ f2_ f3_; subst f4_; subst f5_))
    refine hK.out _ _ ⟨zc0 BK402, zc1 BK402, zc2 BK402, zc3 BK402, zc4 BK402, zc0 BK377, zc1 BK377, zc2 BK377, zc3 BK377, zc4 BK377⟩ (fun hHeld => ?_)
    clear hK K
    refine zN ?_
    refine one_ (i := 3) (N := some 52) #[true, true, true, true, false] rfl rfl (by kernel_rfl) (by decide) (fun K hK => ?_)
    refine zgo Try.func21 #[.agg #[.int .i64 t395, .int .i64 t396, .slice Ao31 t397.length co31, .int .i64 t400, .int .i64 t401], .agg #[.int .i64 t413, .int .i64 t414, .slice Ao179 t415.length co179, .int .i64 t418, .int .i64 t419]] ?_
    with_reducible refine (laws_eqFlyPath.calls kj12 t395 t396 _ _ t397 t400 t401 t413 t414 _ _ t415 t418 t419 false _ ?side1 ?side2 ?side3 ?side4 A59.out).mono ?_
    (case side1 => repeat (first | exact (Kd.R_reads' HO_403002.out).2.2 | (with_reducible refine Kd.C_alloc ?_ _) | (with_reducible refine Kd.C_drewN ?_ _) | (with_reducible refine Kd.C_drew ?_)))
    (case side2 => exact (Kd.R_reads' HO_403002.out).2.1)
    (case side3 => repeat (first | exact (Kd.R_reads' HO417.out).2.2 | (with_reducible refine Kd.C_alloc ?_ _) | (with_reducible refine Kd.C_drewN ?_ _) | (with_reducible refine Kd.C_drew ?_)))
    (case side4 => exact (Kd.R_reads' HO417.out).2.1)
    rintro e w180 ⟨rfl, hb⟩
    refine ⟨_, rfl, ?_⟩
    replace HO_395002 := Aside0.mk (Kd.R_below (zr HO_395002) hb)
    replace HO_403002 := Aside0.mk (Kd.R_below (zr HO_403002) hb)
    replace HO_412002 := Aside0.mk (Kd.R_below (zr HO_412002) hb)
    replace HO417 := Aside0.mk (Kd.R_below (zr HO417) hb)
    replace BK377 := zb BK377 hb
    replace BK394 := zb BK394 hb
    replace BK402 := zb BK402 hb
    replace BK411 := zb BK411 hb
    replace HB := Aside0.mk (below_step (by repeat (first | (with_reducible first | exact HB.out | apply below_alloc | apply pw_below_drewN | apply below_drew1 | refine below_set ?_ GE377.out | refine below_set ?_ GE394.out | refine below_set ?_ GE402.out | refine below_set ?_ GE411.out) | exact HB.out)) hb)
    (try clear hb)
    (try clear hb2)
    (try clear hk)
    (try clear hi)
    refine hK.out _ _ ⟨zc0 BK402, zc1 BK402, zc2 BK402, zc3 BK402, zc4 BK402, zc0 BK377, zc1 BK377, zc2 BK377, zc3 BK377, zc4 BK377⟩ (fun hHeld => ?_)
    clear hK K
    refine zN ?_
    refine zp 4 ?_
    refine done_ (by kernel_rfl) ?_
    try go_wp2
    go_ret
    exact ⟨ze, by repeat (first | (with_reducible first | exact HB.out | apply below_alloc | apply pw_below_drewN | apply below_drew1 | refine below_set ?_ GE377.out | refine below_set ?_ GE394.out | refine below_set ?_ GE402.out | refine below_set ?_ GE411.out) | exact HB.out)⟩
   subst c60
   have H1 : ((laws_markFlyPath.f kj12 t395 t396 t397 t400 t401 1).bind fun bt421 => (if bt421.1 < 0 then (laws_FnExactFlySeen.j1 kj12 a1 a2 t393 true a0_0 a0_1 l0_2 a0_3 a0_4 t386 t387 t388 t391 t392 t403 t404 t405 t408 t409) else ((laws_eqFlyPath.f kj12 t403 t404 t405 t408 t409 t386 t387 t388 t391 t392).bind fun t423 => (if t423 = true then (laws_FnExactFlySeen.j1 kj12 a1 a2 t393 (t410 != t393) a0_0 a0_1 l0_2 a0_3 a0_4 t386 t387 t388 t391 t392 t403 t404 t405 t408 t409) else (laws_FnExactFlySeen.j1 kj12 a1 a2 t393 true a0_0 a0_1 l0_2 a0_3 a0_4 t386 t387 t388 t391 t392 t403 t404 t405 t408 t409))))) = some r := by rw [if_pos rfl] at H; exact H
   clear H
   have H := H1
   clear H1
   replace H := Option.bind_eq_some_iff.mp H
   obtain ⟨⟨t421, t422⟩, A610, H⟩ := H
   replace H : (if t421 < 0 then (laws_FnExactFlySeen.j1 kj12 a1 a2 t393 true a0_0 a0_1 l0_2 a0_3 a0_4 t386 t387 t388 t391 t392 t403 t404 t405 t408 t409) else ((laws_eqFlyPath.f kj12 t403 t404 t405 t408 t409 t386 t387 t388 t391 t392).bind fun t423 => (if t423 = true then (laws_FnExactFlySeen.j1 kj12 a1 a2 t393 (t410 != t393) a0_0 a0_1 l0_2 a0_3 a0_4 t386 t387 t388 t391 t392 t403 t404 t405 t408 t409) else (laws_FnExactFlySeen.j1 kj12 a1 a2 t393 true a0_0 a0_1 l0_2 a0_3 a0_4 t386 t387 t388 t391 t392 t403 t404 t405 t408 t409)))) = some r := H
   have A61 := Aside0.mk A610
   clear A610
   have HC62 := Aside0.mk H
   clear H
   try go_wp2
   replace HO_395002 := Aside0.mk (Kd.R_drew HO_395002.out)
   replace HO_403002 := Aside0.mk (Kd.R_drew HO_403002.out)
   replace HO_412002 := Aside0.mk (Kd.R_drew HO_412002.out)
   replace BK377 := Aside0.mk (blk_drew BK377.out)
   replace BK394 := Aside0.mk (blk_drew BK394.out)
   replace BK402 := Aside0.mk (blk_drew BK402.out)
   replace BK411 := Aside0.mk (blk_drew BK411.out)
   replace HB := Aside0.mk (below_drew1 HB.out)
   refine start_ (n := 5) (S := fun w' => w'.cell? ⟨gb402, 0, none⟩ = some (.int .i64 t395) ∧ w'.cell? ⟨gb402, 1, none⟩ = some (.int .i64 t396) ∧ w'.cell? ⟨gb402, 2, none⟩ = some (.slice Ao31 t397.length co31) ∧ w'.cell? ⟨gb402, 3, none⟩ = some (.int .i64 t400) ∧ w'.cell? ⟨gb402, 4, none⟩ = some (.int .i64 t401) ∧ w'.cell? ⟨gb377, 0, none⟩ = some (.int .i64 a0_0) ∧ w'.cell? ⟨gb377, 1, none⟩ = some (.int .i64 a0_1) ∧ w'.cell? ⟨gb377, 2, none⟩ = some (.slice A0_2 l0_2.length c0_2) ∧ w'.cell? ⟨gb377, 3, none⟩ = some (.int .i64 a0_3) ∧ w'.cell? ⟨gb377, 4, none⟩ = some (.int .i64 a0_4)) (ds := []) #[false, false, false, false, false] (by kernel_rfl) rfl rfl ⟨zc0 BK402, zc1 BK402, zc2 BK402, zc3 BK402, zc4 BK402, zc0 BK377, zc1 BK377, zc2 BK377, zc3 BK377, zc4 BK377⟩ (fun hHeld => ?_)
   generalize wc.drew = w63 at HO_395002 HO_403002 HO_412002 BK377 BK394 BK402 BK411 HB hHeld ⊢
   refine take_ (i := 0) (N := some 49) (v := ?_) (a' := ?_) #[true, false, false, false, false] rfl rfl (by kernel_rfl) (fun _ _ _ h => h) (Or.inl ⟨by rfl, ?_⟩) hHeld ?_ ?_; rotate_left; exact zt10; rotate_left; exact zput
   refine take_ (i := 1) (N := some 50) (v := ?_) (a' := ?_) #[true, true, false, false, false] rfl rfl (by kernel_rfl) (fun _ _ _ h => h) (Or.inl ⟨by rfl, ?_⟩) hHeld ?_ ?_; rotate_left; exact zt10; rotate_left; exact zput
   refine one_ (i := 2) (N := some 51) #[true, true, true, false, false] rfl rfl (by kernel_rfl) (by decide) (fun K hK => ?_)
   refine zgo Try.func17 #[.agg #[.int .i64 a0_0, .int .i64 a0_1, .slice A0_2 l0_2.length c0_2, .int .i64 a0_3, .int .i64 a0_4]] ?_
   with_reducible refine (laws_toFlyPath.calls kj12 a0_0 a0_1 _ _ l0_2 a0_3 a0_4 t413 t414 t415 t418 t419 _ ?side1 ?side2 A58.out).mono ?_
   (case side1 => exact zC HR0_2 HB)
   (case side2 => exact HC0_2.out)
   rintro e w64 ⟨v416, rfl, ho0, hb⟩
   refine ⟨_, rfl, ?_⟩
   have HO417 := Aside0.mk (Kd.R_lower (Kd.R_new' (Kd.R_new' (Kd.R_new' ho0 (Kd.R_lt (zr HO_395002))) (Kd.R_lt (zr HO_403002))) (Kd.R_lt (zr HO_412002))) (below_size (by repeat (first | (with_reducible first | exact HB.out | apply below_alloc | apply pw_below_drewN | apply below_drew1 | refine below_set ?_ GE377.out | refine below_set ?_ GE394.out | refine below_set ?_ GE402.out | refine below_set ?_ GE411.out) | exact HB.out))))
   replace HO_395002 := Aside0.mk (Kd.R_elder' (zr HO_395002) (Kd.R_base ho0) hb)
   replace HO_403002 := Aside0.mk (Kd.R_elder' (zr HO_403002) (Kd.R_base ho0) hb)
   replace HO_412002 := Aside0.mk (Kd.R_elder' (zr HO_412002) (Kd.R_base ho0) hb)
   replace BK377 := zb BK377 hb
   replace BK394 := zb BK394 hb
   replace BK402 := zb BK402 hb
   replace BK411 := zb BK411 hb
   replace HB := Aside0.mk (below_step (by repeat (first | (with_reducible first | exact HB.out | apply below_alloc | apply pw_below_drewN | apply below_drew1 | refine below_set ?_ GE377.out | refine below_set ?_ GE394.out | refine below_set ?_ GE402.out | refine below_set ?_ GE411.out) | exact HB.out)) hb)
   (try clear hb)
   (try clear hb2)
   (try clear hk)
   (try clear hi)
   (try clear ho0)
   obtain ⟨Ao65, co65, eo65⟩ := Kd.R_slice HO417.out
   (first | subst eo65 | (injection eo65 with f1_ f2_ f3_; have f4_ := f1_.symm; have f5_ := f3_.symm; clear f1_ f2_ f3_; subst f4_; subst f5_))
   refine hK.out _ _ ⟨zc0 BK402, zc1 BK402, zc2 BK402, zc3 BK402, zc4 BK402, zc0 BK377, zc1 BK377, zc2 BK377, zc3 BK377, zc4 BK377⟩ (fun hHeld => ?_)
   clear hK K
   refine zN ?_
   refine one_ (i := 3) (N := some 52) #[true, true, true, true, false] rfl rfl (by kernel_rfl) (by decide) (fun K hK => ?_)
   refine zgo Try.func21 #[.agg #[.int .i64 t395, .int .i64 t396, .slice Ao31 t397.length co31, .int .i64 t400, .int .i64 t401], .agg #[.int .i64 t413, .int .i64 t414, .slice Ao65 t415.length co65, .int .i64 t418, .int .i64 t419]] ?_
   with_reducible refine (laws_eqFlyPath.calls kj12 t395 t396 _ _ t397 t400 t401 t413 t414 _ _ t415 t418 t419 true _ ?side1 ?side2 ?side3 ?side4 A59.out).mono ?_
   (case side1 => repeat (first | exact (Kd.R_reads' HO_403002.out).2.2 | (with_reducible refine Kd.C_alloc ?_ _) | (with_reducible refine Kd.C_drewN ?_ _) | (with_reducible refine Kd.C_drew ?_)))
   (case side2 => exact (Kd.R_reads' HO_403002.out).2.1)
   (case side3 => repeat (first | exact (Kd.R_reads' HO417.out).2.2 | (with_reducible refine Kd.C_alloc ?_ _) | (with_reducible refine Kd.C_drewN ?_ _) | (with_reducible refine Kd.C_drew ?_)))
   (case side4 => exact (Kd.R_reads' HO417.out).2.1)
   rintro e w66 ⟨rfl, hb⟩
   refine ⟨_, rfl, ?_⟩
   replace HO_395002 := Aside0.mk (Kd.R_below (zr HO_395002) hb)
   replace HO_403002 := Aside0.mk (Kd.R_below (zr HO_403002) hb)
   replace HO_412002 := Aside0.mk (Kd.R_below (zr HO_412002) hb)
   replace HO417 := Aside0.mk (Kd.R_below (zr HO417) hb)
   replace BK377 := zb BK377 hb
   replace BK394 := zb BK394 hb
   replace BK402 := zb BK402 hb
   replace BK411 := zb BK411 hb
   replace HB := Aside0.mk (below_step (by repeat (first | (with_reducible first | exact HB.out | apply below_alloc | apply pw_below_drewN | apply below_drew1 | refine below_set ?_ GE377.out | refine below_set ?_ GE394.out | refine below_set ?_ GE402.out | refine below_set ?_ GE411.out) | exact HB.out)) hb)
   (try clear hb)
   (try clear hb2)
   (try clear hk)
   (try clear hi)
   refine hK.out _ _ ⟨zc0 BK402, zc1 BK402, zc2 BK402, zc3 BK402, zc4 BK402, zc0 BK377, zc1 BK377, zc2 BK377, zc3 BK377, zc4 BK377⟩ (fun hHeld => ?_)
   clear hK K
   refine zN ?_
   refine zp 4 ?_
   refine done_ (by kernel_rfl) ?_
   have hnb67 := NB402_377.out
   have hnc67 := NB377_402.out
   have hnb68 := NB402_394.out
   have hnc68 := NB394_402.out
   have hnb69 := NB402_411.out
   have hnc69 := NB411_402.out
   obtain ⟨hcz70_0, hcz70_1, hcz70_2, hcz70_3, hcz70_4⟩ := zd5 BK402
   obtain ⟨hfz70_0, hfz70_1, hfz70_2, hfz70_3, hfz70_4⟩ := zn5 BK402
   go_upto_region 14 with (first | ((with_reducible refine gate_callee (f := 22) rfl ?_); refine zgl (N := some 56) Try.func22 #[.agg #[.int .i64 t395, .int .i64 t396, .slice Ao31 t397.length co31, .int .i64 t400, .int .i64 t401], .int .i64 1] ?_; (with_reducible refine (laws_markFlyPath.calls kj12 t395 t396 (fun k_ => some k_ = (.slice Ao31 t397.length co31 : Value).ownBlock) (.slice Ao31 t397.length co31) t397 t400 t401 1 t421 t422 w _ ?side1 ?side2 A61.out).mono ?_); (case side1 => repeat (first | (with_reducible first | exact HB.out | apply below_alloc | apply pw_below_drewN | apply below_drew1 | refine below_set ?_ GE377.out | refine below_set ?_ GE394.out | refine below_set ?_ GE402.out | refine below_set ?_ GE411.out) | exact HB.out)); (case side2 => exact Kd.R_tight rfl HO_403002.out); rintro e w71 ⟨rfl, hy0, hb, hkp⟩; refine ⟨_, rfl, ?_⟩; replace HO_395002 := Aside0.mk (Kd.R_mono (ok' := fun k_ => some k_ ≠ (.slice Ao31 t397.length co31 : Value).ownBlock ∧ some k_ ≠ (.slice Ao38 t405.length co38 : Value).ownBlock ∧ some k_ ≠ (.slice Ao65 t415.length co65 : Value).ownBlock) (Kd.R_keptB (HO_395002.out) hkp (fun k_ hk_ hs_ => (hk_.1.1) hs_)) (fun k_ hk_ => ⟨hk_.1.1.1, hk_.1.1.2, hk_.1.2⟩)); replace HO_412002 := Aside0.mk (Kd.R_mono (ok' := fun k_ => some k_ ≠ (.slice Ao24 t388.length co24 : Value).ownBlock ∧ some k_ ≠ (.slice Ao31 t397.length co31 : Value).ownBlock ∧ some k_ ≠ (.slice Ao65 t415.length co65 : Value).ownBlock) (Kd.R_keptB (HO_412002.out) hkp (fun k_ hk_ hs_ => (hk_.1.2) hs_)) (fun k_ hk_ => ⟨hk_.1.1.1, hk_.1.1.2, hk_.1.2⟩)); replace BK377 := Aside0.mk (blk_kept (zh BK377) hkp (fun hs_ => (fun e_ => (Kd.R_ne HO_403002.out BK377.out (by decide)) e_) hs_)); replace BK394 := Aside0.mk (blk_kept (zh BK394) hkp (fun hs_ => (fun e_ => (Kd.R_ne HO_403002.out BK394.out (by decide)) e_) hs_)); replace BK402 := Aside0.mk (blk_kept (zh BK402) hkp (fun hs_ => (fun e_ => (Kd.R_ne HO_403002.out BK402.out (by decide)) e_) hs_)); replace BK411 := Aside0.mk (blk_kept (zh BK411) hkp (fun hs_ => (fun e_ => (Kd.R_ne HO_403002.out BK411.out (by decide)) e_) hs_)); replace HO_403002 := Aside0.mk (Kd.R_reok rfl hy0 (fun k_ e_ => HO_403002.out.1 k_ e_)); replace HO417 := Aside0.mk (Kd.R_mono (ok' := fun k_ => some k_ ≠ (.slice Ao24 t388.length co24 : Value).ownBlock ∧ some k_ ≠ (.slice Ao31 t397.length co31 : Value).ownBlock ∧ some k_ ≠ (.slice Ao38 t405.length co38 : Value).ownBlock) (Kd.R_keptB (HO417.out) hkp (fun k_ hk_ hs_ => (hk_.1.2) hs_)) (fun k_ hk_ => ⟨hk_.1.1.1.2, hk_.1.1.2, hk_.1.2⟩)); replace HB := Aside0.mk (hb); (try clear hb); (try clear hkp); (try clear hy0)))
   (try simp only [Act.put, List.setIfInBounds_toArray, List.set_cons_zero, List.set_cons_succ])
   go_cut [69] (fun v69 wc => ∃ (kq : Nat) (x69_61 : Bool), v69 = .bool x69_61 ∧ Aside0 (laws_FnExactFlySeen.j1 kq a1 a2 t393 x69_61 a0_0 a0_1 l0_2 a0_3 a0_4 t386 t387 t388 t391 t392 t403 t404 t405 t408 t409 = some r) ∧ Aside0 (kq ≤ kj12) ∧ Aside0 (Kd.R k88 88 wc w.heap.size (fun k_ => some k_ ≠ ((.slice Ao31 t397.length co31) : Value).ownBlock ∧ some k_ ≠ ((.slice Ao38 t405.length co38) : Value).ownBlock) (.slice Ao24 t388.length co24) t388) ∧ Aside0 (Kd.R k88 88 wc w.heap.size (fun k_ => some k_ ≠ ((.slice Ao24 t388.length co24) : Value).ownBlock ∧ some k_ ≠ ((.slice Ao38 t405.length co38) : Value).ownBlock) (.slice Ao31 t397.length co31) t422) ∧ Aside0 (Kd.R k88 88 wc w.heap.size (fun k_ => some k_ ≠ ((.slice Ao24 t388.length co24) : Value).ownBlock ∧ some k_ ≠ ((.slice Ao31 t397.length co31) : Value).ownBlock) (.slice Ao38 t405.length co38) t405) ∧ Aside0 (wc.heap[gb377]? = some (.cells #[.int .i64 a0_0, .int .i64 a0_1, (.slice A0_2 l0_2.length c0_2), .int .i64 a0_3, .int .i64 a0_4] 26 (0, 0))) ∧ Aside0 (wc.heap[gb394]? = some (.cells #[.int .i64 t386, .int .i64 t387, (.slice Ao24 t388.length co24), .int .i64 t391, .int .i64 t392] 34 (0, 0))) ∧ Aside0 (wc.heap[gb402]? = some (.cells #[.int .i64 t395, .int .i64 t396, (.slice Ao31 t397.length co31), .int .i64 t400, .int .i64 t401] 34 (0, 0))) ∧ Aside0 (wc.heap[gb411]? = some (.cells #[.int .i64 t403, .int .i64 t404, (.slice Ao38 t405.length co38), .int .i64 t408, .int .i64 t409] 34 (0, 0))) ∧ Aside0 (Below w.heap.size w wc))
   case first =>
    have H := HC62.out
    clear HC62
    by_cases c72 : t421 < 0
    ·rw [if_pos c72] at H
     have c72b0 : decide (t421 < 0) = true := decide_eq_true c72
     clear c72
     (first | rw [c72b0] | (simp only [i64_w, i32_w]; rw [c72b0]) | skip)
     have H' := Aside0.mk H
     clear H
     go_wp2
     go_meet
     case rel => exact ⟨_, (true), zi, H', ⟨by have := HJ12.out; first | omega | exact Nat.le_refl _⟩, ⟨by (with_reducible repeat (first | apply Kd.R_alloc | apply Kd.R_drewN | apply Kd.R_drew)); exact Kd.R_mono HO_395002.out (fun _ hk => ⟨hk.1, hk.2.1⟩)⟩, ⟨by (with_reducible repeat (first | apply Kd.R_alloc | apply Kd.R_drewN | apply Kd.R_drew)); exact Kd.R_mono HO_403002.out (fun _ hk => ⟨hk.1.1, hk.1.2⟩)⟩, ⟨by (with_reducible repeat (first | apply Kd.R_alloc | apply Kd.R_drewN | apply Kd.R_drew)); exact Kd.R_mono HO_412002.out (fun _ hk => ⟨hk.1, hk.2.1⟩)⟩, ⟨zh BK377⟩, ⟨zh BK394⟩, ⟨zh BK402⟩, ⟨zh BK411⟩, ⟨by repeat (first | (with_reducible first | exact HB.out | apply below_alloc | apply pw_below_drewN | apply below_drew1 | refine below_set ?_ GE377.out | refine below_set ?_ GE394.out | refine below_set ?_ GE402.out | refine below_set ?_ GE411.out) | exact HB.out)⟩⟩
    rw [if_neg c72] at H
    have c72b0 : decide (t421 < 0) = false := decide_eq_false c72
    clear c72
    (first | rw [c72b0] | (simp only [i64_w, i32_w]; rw [c72b0]) | skip)
    replace H := zbd H; obtain ⟨t423, A73, H⟩ := H
    by_cases c74 : t423 = true
    ·subst c74
     have H1 : (laws_FnExactFlySeen.j1 kj12 a1 a2 t393 (t410 != t393) a0_0 a0_1 l0_2 a0_3 a0_4 t386 t387 t388 t391 t392 t403 t404 t405 t408 t409) = some r := by rw [if_pos rfl] at H; exact H
     clear H
     have H := H1
     clear H1
     have H' := Aside0.mk H
     clear H
     have hnb75 := NB411_377.out
     have hnc75 := NB377_411.out
     have hnb76 := NB411_394.out
     have hnc76 := NB394_411.out
     have hnb77 := NB411_402.out
     have hnc77 := NB402_411.out
     obtain ⟨hcz78_0, hcz78_1, hcz78_2, hcz78_3, hcz78_4⟩ := zd5 BK411
     obtain ⟨hfz78_0, hfz78_1, hfz78_2, hfz78_3, hfz78_4⟩ := zn5 BK411
     have hnb79 := NB394_377.out
     have hnc79 := NB377_394.out
     have hnb80 := NB394_402.out
     have hnc80 := NB402_394.out
     obtain ⟨hcz81_0, hcz81_1, hcz81_2, hcz81_3, hcz81_4⟩ := zd5 BK394
     obtain ⟨hfz81_0, hfz81_1, hfz81_2, hfz81_3, hfz81_4⟩ := zn5 BK394
     go_wp2_with (first | (go_at_call 21; (with_reducible refine (laws_eqFlyPath.calls kj12 t403 t404 _ _ t405 t408 t409 t386 t387 _ _ t388 t391 t392 true _ ?side1 ?side2 ?side3 ?side4 A73.out).mono ?_); (case side1 => repeat (first | exact (Kd.R_reads' HO_412002.out).2.2 | (with_reducible refine Kd.C_alloc ?_ _) | (with_reducible refine Kd.C_drewN ?_ _) | (with_reducible refine Kd.C_drew ?_))); (case side2 => exact (Kd.R_reads' HO_412002.out).2.1); (case side3 => repeat (first | exact (Kd.R_reads' HO_395002.out).2.2 | (with_reducible refine Kd.C_alloc ?_ _) | (with_reducible refine Kd.C_drewN ?_ _) | (with_reducible refine Kd.C_drew ?_))); (case side4 => exact (Kd.R_reads' HO_395002.out).2.1); rintro e w82 ⟨rfl, hb⟩; replace HO_395002 := Aside0.mk (Kd.R_below (zr HO_395002) hb); replace HO_403002 := Aside0.mk (Kd.R_below (zr HO_403002) hb); replace HO_412002 := Aside0.mk (Kd.R_below (zr HO_412002) hb); replace HO417 := Aside0.mk (Kd.R_below (zr HO417) hb); replace BK377 := zb BK377 hb; replace BK394 := zb BK394 hb; replace BK402 := zb BK402 hb; replace BK411 := zb BK411 hb; replace HB := Aside0.mk (below_step (by repeat (first | (with_reducible first | exact HB.out | apply below_alloc | apply pw_below_drewN | apply below_drew1 | refine below_set ?_ GE377.out | refine below_set ?_ GE394.out | refine below_set ?_ GE402.out | refine below_set ?_ GE411.out) | exact HB.out)) hb); (try clear hb); (try clear hb2); (try clear hk); (try clear hi)))
     go_meet
     case rel => exact ⟨_, ((t410 != t393)), zi, H', ⟨by have := HJ12.out; first | omega | exact Nat.le_refl _⟩, ⟨by (with_reducible repeat (first | apply Kd.R_alloc | apply Kd.R_drewN | apply Kd.R_drew)); exact Kd.R_mono HO_395002.out (fun _ hk => ⟨hk.1, hk.2.1⟩)⟩, ⟨by (with_reducible repeat (first | apply Kd.R_alloc | apply Kd.R_drewN | apply Kd.R_drew)); exact Kd.R_mono HO_403002.out (fun _ hk => ⟨hk.1.1, hk.1.2⟩)⟩, ⟨by (with_reducible repeat (first | apply Kd.R_alloc | apply Kd.R_drewN | apply Kd.R_drew)); exact Kd.R_mono HO_412002.out (fun _ hk => ⟨hk.1, hk.2.1⟩)⟩, ⟨zh BK377⟩, ⟨zh BK394⟩, ⟨zh BK402⟩, ⟨zh BK411⟩, ⟨by repeat (first | (with_reducible first | exact HB.out | apply below_alloc | apply pw_below_drewN | apply below_drew1 | refine below_set ?_ GE377.out | refine below_set ?_ GE394.out | refine below_set ?_ GE402.out | refine below_set ?_ GE411.out) | exact HB.out)⟩⟩
    replace c74 := Bool.eq_false_iff.mpr c74
    subst c74
    have H1 : (laws_FnExactFlySeen.j1 kj12 a1 a2 t393 true a0_0 a0_1 l0_2 a0_3 a0_4 t386 t387 t388 t391 t392 t403 t404 t405 t408 t409) = some r := by rw [if_neg (show ¬ (false = true) by decide)] at H; exact H
    clear H
    have H := H1
    clear H1
    have H' := Aside0.mk H
    clear H
    have hnb83 := NB411_377.out
    have hnc83 := NB377_411.out
    have hnb84 := NB411_394.out
    have hnc84 := NB394_411.out
    have hnb85 := NB411_402.out
    have hnc85 := NB402_411.out
    obtain ⟨hcz86_0, hcz86_1, hcz86_2, hcz86_3, hcz86_4⟩ := zd5 BK411
    obtain ⟨hfz86_0, hfz86_1, hfz86_2, hfz86_3, hfz86_4⟩ := zn5 BK411
    have hnb87 := NB394_377.out
    have hnc87 := NB377_394.out
    have hnb88 := NB394_402.out
    have hnc88 := NB402_394.out
    obtain ⟨hcz89_0, hcz89_1, hcz89_2, hcz89_3, hcz89_4⟩ := zd5 BK394
    obtain ⟨hfz89_0, hfz89_1, hfz89_2, hfz89_3, hfz89_4⟩ := zn5 BK394
    go_wp2_with (first | (go_at_call 21; (with_reducible refine (laws_eqFlyPath.calls kj12 t403 t404 _ _ t405 t408 t409 t386 t387 _ _ t388 t391 t392 false _ ?side1 ?side2 ?side3 ?side4 A73.out).mono ?_); (case side1 => repeat (first | exact (Kd.R_reads' HO_412002.out).2.2 | (with_reducible refine Kd.C_alloc ?_ _) | (with_reducible refine Kd.C_drewN ?_ _) | (with_reducible refine Kd.C_drew ?_))); (case side2 => exact (Kd.R_reads' HO_412002.out).2.1); (case side3 => repeat (first | exact (Kd.R_reads' HO_395002.out).2.2 | (with_reducible refine Kd.C_alloc ?_ _) | (with_reducible refine Kd.C_drewN ?_ _) | (with_reducible refine Kd.C_drew ?_))); (case side4 => exact (Kd.R_reads' HO_395002.out).2.1); rintro e w90 ⟨rfl, hb⟩; replace HO_395002 := Aside0.mk (Kd.R_below (zr HO_395002) hb); replace HO_403002 := Aside0.mk (Kd.R_below (zr HO_403002) hb); replace HO_412002 := Aside0.mk (Kd.R_below (zr HO_412002) hb); replace HO417 := Aside0.mk (Kd.R_below (zr HO417) hb); replace BK377 := zb BK377 hb; replace BK394 := zb BK394 hb; replace BK402 := zb BK402 hb; replace BK411 := zb BK411 hb; replace HB := Aside0.mk (below_step (by repeat (first | (with_reducible first | exact HB.out | apply below_alloc | apply pw_below_drewN | apply below_drew1 | refine below_set ?_ GE377.out | refine below_set ?_ GE394.out | refine below_set ?_ GE402.out | refine below_set ?_ GE411.out) | exact HB.out)) hb); (try clear hb); (try clear hb2); (try clear hk); (try clear hi)))
    go_meet
    case rel => exact ⟨_, (true), zi, H', ⟨by have := HJ12.out; first | omega | exact Nat.le_refl _⟩, ⟨by (with_reducible repeat (first | apply Kd.R_alloc | apply Kd.R_drewN | apply Kd.R_drew)); exact Kd.R_mono HO_395002.out (fun _ hk => ⟨hk.1, hk.2.1⟩)⟩, ⟨by (with_reducible repeat (first | apply Kd.R_alloc | apply Kd.R_drewN | apply Kd.R_drew)); exact Kd.R_mono HO_403002.out (fun _ hk => ⟨hk.1.1, hk.1.2⟩)⟩, ⟨by (with_reducible repeat (first | apply Kd.R_alloc | apply Kd.R_drewN | apply Kd.R_drew)); exact Kd.R_mono HO_412002.out (fun _ hk => ⟨hk.1, hk.2.1⟩)⟩, ⟨zh BK377⟩, ⟨zh BK394⟩, ⟨zh BK402⟩, ⟨zh BK411⟩, ⟨by repeat (first | (with_reducible first | exact HB.out | apply below_alloc | apply pw_below_drewN | apply below_drew1 | refine below_set ?_ GE377.out | refine below_set ?_ GE394.out | refine below_set ?_ GE402.out | refine below_set ?_ GE411.out) | exact HB.out)⟩⟩
   case rest =>
    clear HC62
    try clear c1
    try clear c2
    try clear p2
    try clear c3
    try clear c4
    try clear c5
    try clear c5b0
    try clear c6
    try clear c7
    try clear c8
    try clear c14
    try clear c15
    try clear c17
    try clear c21
    try clear c22
    try clear c28
    try clear c29
    try clear c34
    try clear c35
    try clear c36
    try clear c40
    try clear c41
    try clear c42
    try clear c43
    try clear c45
    try clear c46
    try clear c49
    try clear c50
    try clear c51
    try clear c53
    try clear c54
    try clear c57
    try clear c60
    try clear c67
    try clear c68
    try clear c69
    try clear c72
    try clear c72b0
    try clear c74
    try clear c75
    try clear c76
    try clear c77
    try clear c79
    try clear c80
    try clear c83
    try clear c84
    try clear c85
    try clear c87
    try clear c88
    try clear hcz15_0 hcz15_1 hcz15_2 hcz15_3 hcz15_4
    try clear hcz17_0 hcz17_1 hcz17_2 hcz17_3 hcz17_4
    try clear hcz23_0 hcz23_1 hcz23_2 hcz23_3 hcz23_4
    try clear hcz25_0 hcz25_1 hcz25_2 hcz25_3 hcz25_4
    try clear hcz30_0 hcz30_1 hcz30_2 hcz30_3 hcz30_4
    try clear hcz37_0 hcz37_1 hcz37_2 hcz37_3 hcz37_4
    try clear hcz44_0 hcz44_1 hcz44_2 hcz44_3 hcz44_4
    try clear hcz47_0 hcz47_1 hcz47_2 hcz47_3 hcz47_4
    try clear hcz52_0 hcz52_1 hcz52_2 hcz52_3 hcz52_4
    try clear hcz55_0 hcz55_1 hcz55_2 hcz55_3 hcz55_4
    try clear hcz70_0 hcz70_1 hcz70_2 hcz70_3 hcz70_4
    try clear hcz78_0 hcz78_1 hcz78_2 hcz78_3 hcz78_4
    try clear hcz7_0 hcz7_1 hcz7_2 hcz7_3 hcz7_4
    try clear hcz81_0 hcz81_1 hcz81_2 hcz81_3 hcz81_4
    try clear hcz86_0 hcz86_1 hcz86_2 hcz86_3 hcz86_4
    try clear hcz89_0 hcz89_1 hcz89_2 hcz89_3 hcz89_4
    try clear hfz15_0 hfz15_1 hfz15_2 hfz15_3 hfz15_4
    try clear hfz17_0 hfz17_1 hfz17_2 hfz17_3 hfz17_4
    try clear hfz23_0 hfz23_1 hfz23_2 hfz23_3 hfz23_4
    try clear hfz25_0 hfz25_1 hfz25_2 hfz25_3 hfz25_4
    try clear hfz30_0 hfz30_1 hfz30_2 hfz30_3 hfz30_4
    try clear hfz37_0 hfz37_1 hfz37_2 hfz37_3 hfz37_4
    try clear hfz44_0 hfz44_1 hfz44_2 hfz44_3 hfz44_4
    try clear hfz47_0 hfz47_1 hfz47_2 hfz47_3 hfz47_4
    try clear hfz52_0 hfz52_1 hfz52_2 hfz52_3 hfz52_4
    try clear hfz55_0 hfz55_1 hfz55_2 hfz55_3 hfz55_4
    try clear hfz70_0 hfz70_1 hfz70_2 hfz70_3 hfz70_4
    try clear hfz78_0 hfz78_1 hfz78_2 hfz78_3 hfz78_4
    try clear hfz7_0 hfz7_1 hfz7_2 hfz7_3 hfz7_4
    try clear hfz81_0 hfz81_1 hfz81_2 hfz81_3 hfz81_4
    try clear hfz86_0 hfz86_1 hfz86_2 hfz86_3 hfz86_4
    try clear hfz89_0 hfz89_1 hfz89_2 hfz89_3 hfz89_4
    try clear p2
    obtain ⟨kq, x69_61, rfl, HA, HJ61, HO_395002, HO_403002, HO_412002, BK377, BK394, BK402, BK411, HB⟩ := hcut
    have hl403002_61 := (Kd.R_reads' HO_403002.out).1
    rw [hl403002_61] at HO_403002
    (try simp only [hl403002_61])
    (try simp only [hl403002_61] at BK377)
    (try simp only [hl403002_61] at BK394)
    (try simp only [hl403002_61] at BK402)
    (try simp only [hl403002_61] at BK411)
    (try simp only [hl403002_61] at HO_395002)
    (try simp only [hl403002_61] at HO_412002)
    cases kq with
    | zero => exact absurd HA.out (by simp [laws_FnExactFlySeen.j1])
    | succ kj61 =>
     have H := HA.out
     clear HA
     simp only [laws_FnExactFlySeen.j1] at H
     by_cases c91 : x69_61 = true
     ·subst c91
      have H1 : (some false) = some r := by rw [if_pos rfl] at H; exact H
      clear H
      have H := H1
      clear H1
      obtain rfl := Option.some.inj H
      go_wp2
      go_ret
      exact ⟨ze, by repeat (first | (with_reducible first | exact HB.out | apply below_alloc | apply pw_below_drewN | apply below_drew1 | refine below_set ?_ GE377.out | refine below_set ?_ GE394.out | refine below_set ?_ GE402.out | refine below_set ?_ GE411.out) | exact HB.out)⟩
     replace c91 := Bool.eq_false_iff.mpr c91
     subst c91
     have H1 : ((laws_markFlyPath.f kj61 t403 t404 t405 t408 t409 1).bind fun bt424 => ((laws_heldFlyPath.f kj61 t403 t404 bt424.2 t408 t409 1).bind fun t426 => (if t426 < 0 then (some false) else (if t426 = bt424.1 then ((laws_toFlyPath.f kj61 a0_0 a0_1 l0_2 a0_3 a0_4).bind fun bt427 => ((impl_FlySeen.f kj61 bt427.1 bt427.2.1 bt427.2.2.1 bt427.2.2.2.1 bt427.2.2.2.2 a1 a2).bind fun bt434 => ((laws_eqFlyPath.f kj61 bt434.1 bt434.2.1 bt434.2.2.1 bt434.2.2.2.1 bt434.2.2.2.2.1 t386 t387 t388 t391 t392).bind fun t443 => (if t443 = true then (laws_FnExactFlySeen.j2 kj61 bt424.1 (bt434.2.2.2.2.2 != t393) t403 t404 bt424.2 t408 t409) else (laws_FnExactFlySeen.j2 kj61 bt424.1 true t403 t404 bt424.2 t408 t409))))) else (some false))))) = some r := by rw [if_neg (show ¬ (false = true) by decide)] at H; exact H
     clear H
     have H := H1
     clear H1
     replace H := Option.bind_eq_some_iff.mp H
     obtain ⟨⟨t424, t425⟩, A920, H⟩ := H
     replace H : ((laws_heldFlyPath.f kj61 t403 t404 t425 t408 t409 1).bind fun t426 => (if t426 < 0 then (some false) else (if t426 = t424 then ((laws_toFlyPath.f kj61 a0_0 a0_1 l0_2 a0_3 a0_4).bind fun bt427 => ((impl_FlySeen.f kj61 bt427.1 bt427.2.1 bt427.2.2.1 bt427.2.2.2.1 bt427.2.2.2.2 a1 a2).bind fun bt434 => ((laws_eqFlyPath.f kj61 bt434.1 bt434.2.1 bt434.2.2.1 bt434.2.2.2.1 bt434.2.2.2.2.1 t386 t387 t388 t391 t392).bind fun t443 => (if t443 = true then (laws_FnExactFlySeen.j2 kj61 t424 (bt434.2.2.2.2.2 != t393) t403 t404 t425 t408 t409) else (laws_FnExactFlySeen.j2 kj61 t424 true t403 t404 t425 t408 t409))))) else (some false)))) = some r := H
     have A92 := Aside0.mk A920
     clear A920
     replace H := zbd H; obtain ⟨t426, A93, H⟩ := H
     by_cases c94 : t426 < 0
     ·rw [if_pos c94] at H
      have c94b0 : decide (t426 < 0) = true := decide_eq_true c94
      clear c94
      obtain rfl := Option.some.inj H
      have hnb95 := NB411_377.out
      have hnc95 := NB377_411.out
      have hnb96 := NB411_394.out
      have hnc96 := NB394_411.out
      have hnb97 := NB411_402.out
      have hnc97 := NB402_411.out
      obtain ⟨hcz98_0, hcz98_1, hcz98_2, hcz98_3, hcz98_4⟩ := zd5 BK411
      obtain ⟨hfz98_0, hfz98_1, hfz98_2, hfz98_3, hfz98_4⟩ := zn5 BK411
      go_wp2_with (first | ((with_reducible refine gate_callee (f := 22) rfl ?_); refine zgl (N := some 72) Try.func22 #[.agg #[.int .i64 t403, .int .i64 t404, .slice Ao38 t405.length co38, .int .i64 t408, .int .i64 t409], .int .i64 1] ?_; (with_reducible refine (laws_markFlyPath.calls kj61 t403 t404 (fun k_ => some k_ = (.slice Ao38 t405.length co38 : Value).ownBlock) (.slice Ao38 t405.length co38) t405 t408 t409 1 t424 t425 w _ ?side1 ?side2 A92.out).mono ?_); (case side1 => repeat (first | (with_reducible first | exact HB.out | apply below_alloc | apply pw_below_drewN | apply below_drew1 | refine below_set ?_ GE377.out | refine below_set ?_ GE394.out | refine below_set ?_ GE402.out | refine below_set ?_ GE411.out) | exact HB.out)); (case side2 => exact Kd.R_tight rfl HO_412002.out); rintro e w99 ⟨rfl, hy0, hb, hkp⟩; refine ⟨_, rfl, ?_⟩; replace HO_395002 := Aside0.mk (Kd.R_mono (ok' := fun k_ => some k_ ≠ (.slice Ao31 t422.length co31 : Value).ownBlock ∧ some k_ ≠ (.slice Ao38 t405.length co38 : Value).ownBlock) (Kd.R_keptB (HO_395002.out) hkp (fun k_ hk_ hs_ => (hk_.2) hs_)) (fun k_ hk_ => ⟨hk_.1.1, hk_.1.2⟩)); replace HO_403002 := Aside0.mk (Kd.R_mono (ok' := fun k_ => some k_ ≠ (.slice Ao24 t388.length co24 : Value).ownBlock ∧ some k_ ≠ (.slice Ao38 t405.length co38 : Value).ownBlock) (Kd.R_keptB (HO_403002.out) hkp (fun k_ hk_ hs_ => (hk_.2) hs_)) (fun k_ hk_ => ⟨hk_.1.1, hk_.1.2⟩)); replace BK377 := Aside0.mk (blk_kept (zh BK377) hkp (fun hs_ => (fun e_ => (Kd.R_ne HO_412002.out BK377.out (by decide)) e_) hs_)); replace BK394 := Aside0.mk (blk_kept (zh BK394) hkp (fun hs_ => (fun e_ => (Kd.R_ne HO_412002.out BK394.out (by decide)) e_) hs_)); replace BK402 := Aside0.mk (blk_kept (zh BK402) hkp (fun hs_ => (fun e_ => (Kd.R_ne HO_412002.out BK402.out (by decide)) e_) hs_)); replace BK411 := Aside0.mk (blk_kept (zh BK411) hkp (fun hs_ => (fun e_ => (Kd.R_ne HO_412002.out BK411.out (by decide)) e_) hs_)); replace HO_412002 := Aside0.mk (Kd.R_reok rfl hy0 (fun k_ e_ => HO_412002.out.1 k_ e_)); replace HB := Aside0.mk (hb); (try clear hb); (try clear hkp); (try clear hy0); obtain ⟨hcz100_0, hcz100_1, hcz100_2, hcz100_3, hcz100_4⟩ := zd5 BK411; obtain ⟨hfz100_0, hfz100_1, hfz100_2, hfz100_3, hfz100_4⟩ := zn5 BK411) | ((with_reducible refine gate_callee (f := 37) rfl ?_); refine goesL_ (some 75) rfl rfl Try.func37 (by kernel_rfl) rfl #[.agg #[.int .i64 t403, .int .i64 t404, .slice Ao38 t425.length co38, .int .i64 t408, .int .i64 t409], .int .i64 1] rfl (by (try simp only [List.map_toArray, List.map_cons, List.map_nil]); first | done | (rw [show t425.length = t405.length from (Kd.R_reads' HO_412002.out).1.symm] <;> rfl) | rfl | (simp only [List.length_drop, List.length_take]; rfl)) ?_; (with_reducible refine (laws_heldFlyPath.calls kj61 t403 t404 _ _ t425 t408 t409 1 t426 _ ?side1 ?side2 A93.out).mono ?_); (case side1 => repeat (first | exact (Kd.R_reads' HO_412002.out).2.2 | (with_reducible refine Kd.C_alloc ?_ _) | (with_reducible refine Kd.C_drewN ?_ _) | (with_reducible refine Kd.C_drew ?_))); (case side2 => rw [show t425.length = t405.length from (Kd.R_reads' HO_412002.out).1.symm]; exact (Kd.R_reads' HO_412002.out).2.1); rintro e w101 ⟨rfl, hb⟩; refine ⟨_, rfl, ?_⟩; replace HO_395002 := Aside0.mk (Kd.R_below (zr HO_395002) hb); replace HO_403002 := Aside0.mk (Kd.R_below (zr HO_403002) hb); replace HO_412002 := Aside0.mk (Kd.R_below (zr HO_412002) hb); replace BK377 := zb BK377 hb; replace BK394 := zb BK394 hb; replace BK402 := zb BK402 hb; replace BK411 := zb BK411 hb; replace HB := Aside0.mk (below_step (by repeat (first | (with_reducible first | exact HB.out | apply below_alloc | apply pw_below_drewN | apply below_drew1 | refine below_set ?_ GE377.out | refine below_set ?_ GE394.out | refine below_set ?_ GE402.out | refine below_set ?_ GE411.out) | exact HB.out)) hb); (try clear hb); (try clear hb2); (try clear hk); (try clear hi)))
      go_ret
      exact ⟨ze, by repeat (first | (with_reducible first | exact HB.out | apply below_alloc | apply pw_below_drewN | apply below_drew1 | refine below_set ?_ GE377.out | refine below_set ?_ GE394.out | refine below_set ?_ GE402.out | refine below_set ?_ GE411.out) | exact HB.out)⟩
     rw [if_neg c94] at H
     have c94b0 : decide (t426 < 0) = false := decide_eq_false c94
     clear c94
     by_cases c102 : t426 = t424
     rotate_left
     ·rw [if_neg c102] at H
      have c102b0 : (t426 == t424) = false := beq_eq_false_iff_ne.mpr c102
      have c102b1 : (t426 != t424) = true := bne_iff_ne.mpr c102
      obtain rfl := Option.some.inj H
      have hnb170 := NB411_377.out
      have hnc170 := NB377_411.out
      have hnb171 := NB411_394.out
      have hnc171 := NB394_411.out
      have hnb172 := NB411_402.out
      have hnc172 := NB402_411.out
      obtain ⟨hcz173_0, hcz173_1, hcz173_2, hcz173_3, hcz173_4⟩ := zd5 BK411
      obtain ⟨hfz173_0, hfz173_1, hfz173_2, hfz173_3, hfz173_4⟩ := zn5 BK411
      go_wp2_with (first | ((with_reducible refine gate_callee (f := 22) rfl ?_); refine zgl (N := some 72) Try.func22 #[.agg #[.int .i64 t403, .int .i64 t404, .slice Ao38 t405.length co38, .int .i64 t408, .int .i64 t409], .int .i64 1] ?_; (with_reducible refine (laws_markFlyPath.calls kj61 t403 t404 (fun k_ => some k_ = (.slice Ao38 t405.length co38 : Value).ownBlock) (.slice Ao38 t405.length co38) t405 t408 t409 1 t424 t425 w _ ?side1 ?side2 A92.out).mono ?_); (case side1 => repeat (first | (with_reducible first | exact HB.out | apply below_alloc | apply pw_below_drewN | apply below_drew1 | refine below_set ?_ GE377.out | refine below_set ?_ GE394.out | refine below_set ?_ GE402.out | refine below_set ?_ GE411.out) | exact HB.out)); (case side2 => exact Kd.R_tight rfl HO_412002.out); rintro e w174 ⟨rfl, hy0, hb, hkp⟩; refine ⟨_, rfl, ?_⟩; replace HO_395002 := Aside0.mk (Kd.R_mono (ok' := fun k_ => some k_ ≠ (.slice Ao31 t422.length co31 : Value).ownBlock ∧ some k_ ≠ (.slice Ao38 t405.length co38 : Value).ownBlock) (Kd.R_keptB (HO_395002.out) hkp (fun k_ hk_ hs_ => (hk_.2) hs_)) (fun k_ hk_ => ⟨hk_.1.1, hk_.1.2⟩)); replace HO_403002 := Aside0.mk (Kd.R_mono (ok' := fun k_ => some k_ ≠ (.slice Ao24 t388.length co24 : Value).ownBlock ∧ some k_ ≠ (.slice Ao38 t405.length co38 : Value).ownBlock) (Kd.R_keptB (HO_403002.out) hkp (fun k_ hk_ hs_ => (hk_.2) hs_)) (fun k_ hk_ => ⟨hk_.1.1, hk_.1.2⟩)); replace BK377 := Aside0.mk (blk_kept (zh BK377) hkp (fun hs_ => (fun e_ => (Kd.R_ne HO_412002.out BK377.out (by decide)) e_) hs_)); replace BK394 := Aside0.mk (blk_kept (zh BK394) hkp (fun hs_ => (fun e_ => (Kd.R_ne HO_412002.out BK394.out (by decide)) e_) hs_)); replace BK402 := Aside0.mk (blk_kept (zh BK402) hkp (fun hs_ => (fun e_ => (Kd.R_ne HO_412002.out BK402.out (by decide)) e_) hs_)); replace BK411 := Aside0.mk (blk_kept (zh BK411) hkp (fun hs_ => (fun e_ => (Kd.R_ne HO_412002.out BK411.out (by decide)) e_) hs_)); replace HO_412002 := Aside0.mk (Kd.R_reok rfl hy0 (fun k_ e_ => HO_412002.out.1 k_ e_)); replace HB := Aside0.mk (hb); (try clear hb); (try clear hkp); (try clear hy0); obtain ⟨hcz175_0, hcz175_1, hcz175_2, hcz175_3, hcz175_4⟩ := zd5 BK411; obtain ⟨hfz175_0, hfz175_1, hfz175_2, hfz175_3, hfz175_4⟩ := zn5 BK411) | ((with_reducible refine gate_callee (f := 37) rfl ?_); refine goesL_ (some 75) rfl rfl Try.func37 (by kernel_rfl) rfl #[.agg #[.int .i64 t403, .int .i64 t404, .slice Ao38 t425.length co38, .int .i64 t408, .int .i64 t409], .int .i64 1] rfl (by (try simp only [List.map_toArray, List.map_cons, List.map_nil]); first | done | (rw [show t425.length = t405.length from (Kd.R_reads' HO_412002.out).1.symm] <;> rfl) | rfl | (simp only [List.length_drop, List.length_take]; rfl)) ?_; (with_reducible refine (laws_heldFlyPath.calls kj61 t403 t404 _ _ t425 t408 t409 1 t426 _ ?side1 ?side2 A93.out).mono ?_); (case side1 => repeat (first | exact (Kd.R_reads' HO_412002.out).2.2 | (with_reducible refine Kd.C_alloc ?_ _) | (with_reducible refine Kd.C_drewN ?_ _) | (with_reducible refine Kd.C_drew ?_))); (case side2 => rw [show t425.length = t405.length from (Kd.R_reads' HO_412002.out).1.symm]; exact (Kd.R_reads' HO_412002.out).2.1); rintro e w176 ⟨rfl, hb⟩; refine ⟨_, rfl, ?_⟩; replace HO_395002 := Aside0.mk (Kd.R_below (zr HO_395002) hb); replace HO_403002 := Aside0.mk (Kd.R_below (zr HO_403002) hb); replace HO_412002 := Aside0.mk (Kd.R_below (zr HO_412002) hb); replace BK377 := zb BK377 hb; replace BK394 := zb BK394 hb; replace BK402 := zb BK402 hb; replace BK411 := zb BK411 hb; replace HB := Aside0.mk (below_step (by repeat (first | (with_reducible first | exact HB.out | apply below_alloc | apply pw_below_drewN | apply below_drew1 | refine below_set ?_ GE377.out | refine below_set ?_ GE394.out | refine below_set ?_ GE402.out | refine below_set ?_ GE411.out) | exact HB.out)) hb); (try clear hb); (try clear hb2); (try clear hk); (try clear hi)))
      go_ret
      exact ⟨ze, by repeat (first | (with_reducible first | exact HB.out | apply below_alloc | apply pw_below_drewN | apply below_drew1 | refine below_set ?_ GE377.out | refine below_set ?_ GE394.out | refine below_set ?_ GE402.out | refine below_set ?_ GE411.out) | exact HB.out)⟩
     rw [if_pos c102] at H
     have c102b0 : (t426 == t424) = true := beq_iff_eq.mpr c102
     have c102b1 : (t426 != t424) = false := bne_eq_false_iff_eq.mpr c102
     clear c102
     replace H := Option.bind_eq_some_iff.mp H
     obtain ⟨⟨t427, t428, t429, t432, t433⟩, A1030, H⟩ := H
     replace H : ((impl_FlySeen.f kj61 t427 t428 t429 t432 t433 a1 a2).bind fun bt434 => ((laws_eqFlyPath.f kj61 bt434.1 bt434.2.1 bt434.2.2.1 bt434.2.2.2.1 bt434.2.2.2.2.1 t386 t387 t388 t391 t392).bind fun t443 => (if t443 = true then (laws_FnExactFlySeen.j2 kj61 t424 (bt434.2.2.2.2.2 != t393) t403 t404 t425 t408 t409) else (laws_FnExactFlySeen.j2 kj61 t424 true t403 t404 t425 t408 t409)))) = some r := H
     have A103 := Aside0.mk A1030
     clear A1030
     replace H := Option.bind_eq_some_iff.mp H
     obtain ⟨⟨t434, t435, t436, t439, t440, t441⟩, A1040, H⟩ := H
     replace H : ((laws_eqFlyPath.f kj61 t434 t435 t436 t439 t440 t386 t387 t388 t391 t392).bind fun t443 => (if t443 = true then (laws_FnExactFlySeen.j2 kj61 t424 (t441 != t393) t403 t404 t425 t408 t409) else (laws_FnExactFlySeen.j2 kj61 t424 true t403 t404 t425 t408 t409))) = some r := H
     have A104 := Aside0.mk A1040
     clear A1040
     have HC105 := Aside0.mk H
     clear H
     have hnb106 := NB411_377.out
     have hnc106 := NB377_411.out
     have hnb107 := NB411_394.out
     have hnc107 := NB394_411.out
     have hnb108 := NB411_402.out
     have hnc108 := NB402_411.out
     obtain ⟨hcz109_0, hcz109_1, hcz109_2, hcz109_3, hcz109_4⟩ := zd5 BK411
     obtain ⟨hfz109_0, hfz109_1, hfz109_2, hfz109_3, hfz109_4⟩ := zn5 BK411
     go_upto_region 25 with (first | ((with_reducible refine gate_callee (f := 22) rfl ?_); refine zgl (N := some 72) Try.func22 #[.agg #[.int .i64 t403, .int .i64 t404, .slice Ao38 t405.length co38, .int .i64 t408, .int .i64 t409], .int .i64 1] ?_; (with_reducible refine (laws_markFlyPath.calls kj61 t403 t404 (fun k_ => some k_ = (.slice Ao38 t405.length co38 : Value).ownBlock) (.slice Ao38 t405.length co38) t405 t408 t409 1 t424 t425 w _ ?side1 ?side2 A92.out).mono ?_); (case side1 => repeat (first | (with_reducible first | exact HB.out | apply below_alloc | apply pw_below_drewN | apply below_drew1 | refine below_set ?_ GE377.out | refine below_set ?_ GE394.out | refine below_set ?_ GE402.out | refine below_set ?_ GE411.out) | exact HB.out)); (case side2 => exact Kd.R_tight rfl HO_412002.out); rintro e w110 ⟨rfl, hy0, hb, hkp⟩; refine ⟨_, rfl, ?_⟩; replace HO_395002 := Aside0.mk (Kd.R_mono (ok' := fun k_ => some k_ ≠ (.slice Ao31 t422.length co31 : Value).ownBlock ∧ some k_ ≠ (.slice Ao38 t405.length co38 : Value).ownBlock) (Kd.R_keptB (HO_395002.out) hkp (fun k_ hk_ hs_ => (hk_.2) hs_)) (fun k_ hk_ => ⟨hk_.1.1, hk_.1.2⟩)); replace HO_403002 := Aside0.mk (Kd.R_mono (ok' := fun k_ => some k_ ≠ (.slice Ao24 t388.length co24 : Value).ownBlock ∧ some k_ ≠ (.slice Ao38 t405.length co38 : Value).ownBlock) (Kd.R_keptB (HO_403002.out) hkp (fun k_ hk_ hs_ => (hk_.2) hs_)) (fun k_ hk_ => ⟨hk_.1.1, hk_.1.2⟩)); replace BK377 := Aside0.mk (blk_kept (zh BK377) hkp (fun hs_ => (fun e_ => (Kd.R_ne HO_412002.out BK377.out (by decide)) e_) hs_)); replace BK394 := Aside0.mk (blk_kept (zh BK394) hkp (fun hs_ => (fun e_ => (Kd.R_ne HO_412002.out BK394.out (by decide)) e_) hs_)); replace BK402 := Aside0.mk (blk_kept (zh BK402) hkp (fun hs_ => (fun e_ => (Kd.R_ne HO_412002.out BK402.out (by decide)) e_) hs_)); replace BK411 := Aside0.mk (blk_kept (zh BK411) hkp (fun hs_ => (fun e_ => (Kd.R_ne HO_412002.out BK411.out (by decide)) e_) hs_)); replace HO_412002 := Aside0.mk (Kd.R_reok rfl hy0 (fun k_ e_ => HO_412002.out.1 k_ e_)); replace HB := Aside0.mk (hb); (try clear hb); (try clear hkp); (try clear hy0); obtain ⟨hcz111_0, hcz111_1, hcz111_2, hcz111_3, hcz111_4⟩ := zd5 BK411; obtain ⟨hfz111_0, hfz111_1, hfz111_2, hfz111_3, hfz111_4⟩ := zn5 BK411) | ((with_reducible refine gate_callee (f := 37) rfl ?_); refine goesL_ (some 75) rfl rfl Try.func37 (by kernel_rfl) rfl #[.agg #[.int .i64 t403, .int .i64 t404, .slice Ao38 t425.length co38, .int .i64 t408, .int .i64 t409], .int .i64 1] rfl (by (try simp only [List.map_toArray, List.map_cons, List.map_nil]); first | done | (rw [show t425.length = t405.length from (Kd.R_reads' HO_412002.out).1.symm] <;> rfl) | rfl | (simp only [List.length_drop, List.length_take]; rfl)) ?_; (with_reducible refine (laws_heldFlyPath.calls kj61 t403 t404 _ _ t425 t408 t409 1 t426 _ ?side1 ?side2 A93.out).mono ?_); (case side1 => repeat (first | exact (Kd.R_reads' HO_412002.out).2.2 | (with_reducible refine Kd.C_alloc ?_ _) | (with_reducible refine Kd.C_drewN ?_ _) | (with_reducible refine Kd.C_drew ?_))); (case side2 => rw [show t425.length = t405.length from (Kd.R_reads' HO_412002.out).1.symm]; exact (Kd.R_reads' HO_412002.out).2.1); rintro e w112 ⟨rfl, hb⟩; refine ⟨_, rfl, ?_⟩; replace HO_395002 := Aside0.mk (Kd.R_below (zr HO_395002) hb); replace HO_403002 := Aside0.mk (Kd.R_below (zr HO_403002) hb); replace HO_412002 := Aside0.mk (Kd.R_below (zr HO_412002) hb); replace BK377 := zb BK377 hb; replace BK394 := zb BK394 hb; replace BK402 := zb BK402 hb; replace BK411 := zb BK411 hb; replace HB := Aside0.mk (below_step (by repeat (first | (with_reducible first | exact HB.out | apply below_alloc | apply pw_below_drewN | apply below_drew1 | refine below_set ?_ GE377.out | refine below_set ?_ GE394.out | refine below_set ?_ GE402.out | refine below_set ?_ GE411.out) | exact HB.out)) hb); (try clear hb); (try clear hb2); (try clear hk); (try clear hi); have hnb113 := NB377_394.out; have hnc113 := NB394_377.out; have hnb114 := NB377_402.out; have hnc114 := NB402_377.out; obtain ⟨hcz115_0, hcz115_1, hcz115_2, hcz115_3, hcz115_4⟩ := zd5 BK377; obtain ⟨hfz115_0, hfz115_1, hfz115_2, hfz115_3, hfz115_4⟩ := zn5 BK377) | ((with_reducible refine gate_callee (f := 17) rfl ?_); refine zgl (N := some 83) Try.func17 #[.agg #[.int .i64 a0_0, .int .i64 a0_1, .slice A0_2 l0_2.length c0_2, .int .i64 a0_3, .int .i64 a0_4]] ?_; (with_reducible refine (laws_toFlyPath.calls kj61 a0_0 a0_1 _ _ l0_2 a0_3 a0_4 t427 t428 t429 t432 t433 _ ?side1 ?side2 A103.out).mono ?_); (case side1 => exact zC HR0_2 HB); (case side2 => exact HC0_2.out); rintro e w116 ⟨v430, rfl, ho0, hb⟩; refine ⟨_, rfl, ?_⟩; have HO431 := Aside0.mk (Kd.R_lower (Kd.R_new' (Kd.R_new' (Kd.R_new' ho0 (Kd.R_lt (zr HO_395002))) (Kd.R_lt (zr HO_403002))) (Kd.R_lt (zr HO_412002))) (below_size (by repeat (first | (with_reducible first | exact HB.out | apply below_alloc | apply pw_below_drewN | apply below_drew1 | refine below_set ?_ GE377.out | refine below_set ?_ GE394.out | refine below_set ?_ GE402.out | refine below_set ?_ GE411.out) | exact HB.out)))); replace HO_395002 := Aside0.mk (Kd.R_elder' (zr HO_395002) (Kd.R_base ho0) hb); replace HO_403002 := Aside0.mk (Kd.R_elder' (zr HO_403002) (Kd.R_base ho0) hb); replace HO_412002 := Aside0.mk (Kd.R_elder' (zr HO_412002) (Kd.R_base ho0) hb); replace BK377 := zb BK377 hb; replace BK394 := zb BK394 hb; replace BK402 := zb BK402 hb; replace BK411 := zb BK411 hb; replace HB := Aside0.mk (below_step (by repeat (first | (with_reducible first | exact HB.out | apply below_alloc | apply pw_below_drewN | apply below_drew1 | refine below_set ?_ GE377.out | refine below_set ?_ GE394.out | refine below_set ?_ GE402.out | refine below_set ?_ GE411.out) | exact HB.out)) hb); (try clear hb); (try clear hb2); (try clear hk); (try clear hi); (try clear ho0); obtain ⟨Ao117, co117, eo117⟩ := Kd.R_slice HO431.out; subst eo117) | ((with_reducible refine gate_callee (f := 51) rfl ?_); refine zgl (N := some 86) Try.func51 #[.agg #[.int .i64 t427, .int .i64 t428, .slice Ao117 t429.length co117, .int .i64 t432, .int .i64 t433], .int .i64 a1, .int .i64 a2] ?_; (with_reducible refine (impl_FlySeen.calls kj61 t427 t428 _ _ t429 t432 t433 a1 a2 t434 t435 t436 t439 t440 t441 _ ?side1 ?side2 A104.out).mono ?_); (case side1 => repeat (first | exact (Kd.R_reads' HO431.out).2.2 | (with_reducible refine Kd.C_alloc ?_ _) | (with_reducible refine Kd.C_drewN ?_ _) | (with_reducible refine Kd.C_drew ?_))); (case side2 => exact (Kd.R_reads' HO431.out).2.1); rintro e w118 ⟨v437, rfl, ho0, hb⟩; refine ⟨_, rfl, ?_⟩; have HO438 := Aside0.mk (Kd.R_lower (Kd.R_new' (Kd.R_new' (Kd.R_new' (Kd.R_new' ho0 (Kd.R_lt (zr HO_395002))) (Kd.R_lt (zr HO_403002))) (Kd.R_lt (zr HO_412002))) (Kd.R_lt (zr HO431))) (below_size (by repeat (first | (with_reducible first | exact HB.out | apply below_alloc | apply pw_below_drewN | apply below_drew1 | refine below_set ?_ GE377.out | refine below_set ?_ GE394.out | refine below_set ?_ GE402.out | refine below_set ?_ GE411.out) | exact HB.out)))); replace HO_395002 := Aside0.mk (Kd.R_elder' (zr HO_395002) (Kd.R_base ho0) hb); replace HO_403002 := Aside0.mk (Kd.R_elder' (zr HO_403002) (Kd.R_base ho0) hb); replace HO_412002 := Aside0.mk (Kd.R_elder' (zr HO_412002) (Kd.R_base ho0) hb); replace HO431 := Aside0.mk (Kd.R_elder' (zr HO431) (Kd.R_base ho0) hb); replace BK377 := zb BK377 hb; replace BK394 := zb BK394 hb; replace BK402 := zb BK402 hb; replace BK411 := zb BK411 hb; replace HB := Aside0.mk (below_step (by repeat (first | (with_reducible first | exact HB.out | apply below_alloc | apply pw_below_drewN | apply below_drew1 | refine below_set ?_ GE377.out | refine below_set ?_ GE394.out | refine below_set ?_ GE402.out | refine below_set ?_ GE411.out) | exact HB.out)) hb); (try clear hb); (try clear hb2); (try clear hk); (try clear hi); (try clear ho0)) | ((with_reducible refine gate_dst (N := 16) rfl ?_); refine zbx 16 #[.int .i64 0, .int .i64 0, .slice none 0 0, .int .i64 0, .int .i64 0] 34 ?_; intro gb442 hg w119 hbox hb; have BK442 := zA hbox; have GW442 := Aside0.mk ((by rw [hg]; exact (below_size (by repeat (first | (with_reducible first | exact HB.out | apply below_alloc | apply pw_below_drewN | apply below_drew1 | refine below_set ?_ GE377.out | refine below_set ?_ GE394.out | refine below_set ?_ GE402.out | refine below_set ?_ GE411.out) | exact HB.out))) : w.heap.size ≤ gb442)); have GE442 := Aside0.mk ((by rw [hg]; exact (below_size (by repeat (first | (with_reducible first | exact HB.out | apply below_alloc | apply pw_below_drewN | apply below_drew1 | refine below_set ?_ GE377.out | refine below_set ?_ GE394.out | refine below_set ?_ GE402.out | refine below_set ?_ GE411.out) | exact HB.out))) : w.heap.size ≤ gb442)); have NB377_442 := zne hg BK377; have NB442_377 := znf hg BK377; have NB394_442 := zne hg BK394; have NB442_394 := znf hg BK394; have NB402_442 := zne hg BK402; have NB442_402 := znf hg BK402; have NB411_442 := zne hg BK411; have NB442_411 := znf hg BK411; replace HO_395002 := Aside0.mk (Kd.R_below (zr HO_395002) hb); replace HO_403002 := Aside0.mk (Kd.R_below (zr HO_403002) hb); replace HO_412002 := Aside0.mk (Kd.R_below (zr HO_412002) hb); replace HO431 := Aside0.mk (Kd.R_below (zr HO431) hb); replace HO438 := Aside0.mk (Kd.R_below (zr HO438) hb); replace BK377 := zb BK377 hb; replace BK394 := zb BK394 hb; replace BK402 := zb BK402 hb; replace BK411 := zb BK411 hb; replace HB := Aside0.mk (below_step (by repeat (first | (with_reducible first | exact HB.out | apply below_alloc | apply pw_below_drewN | apply below_drew1 | refine below_set ?_ GE377.out | refine below_set ?_ GE394.out | refine below_set ?_ GE402.out | refine below_set ?_ GE411.out) | exact HB.out)) hb); clear hb hbox hg; have hnb120 := NB442_377.out; have hnc120 := NB377_442.out; have hnb121 := NB442_394.out; have hnc121 := NB394_442.out; have hnb122 := NB442_402.out; have hnc122 := NB402_442.out; have hnb123 := NB442_411.out; have hnc123 := NB411_442.out; obtain ⟨hcz124_0, hcz124_1, hcz124_2, hcz124_3, hcz124_4⟩ := zd5 BK442; obtain ⟨hfz124_0, hfz124_1, hfz124_2, hfz124_3, hfz124_4⟩ := zn5 BK442; obtain ⟨Ao125, co125, eo125⟩ := Kd.R_slice HO438.out; subst eo125))
     (try simp only [Act.put, List.setIfInBounds_toArray, List.set_cons_zero, List.set_cons_succ])
     go_cut [97] (fun v97 wc => ∃ (kq : Nat) (x97_104 : Bool), v97 = .bool x97_104 ∧ Aside0 (laws_FnExactFlySeen.j2 kq t424 x97_104 t403 t404 t425 t408 t409 = some r) ∧ Aside0 (kq ≤ kj61) ∧ Aside0 (Kd.R k88 88 wc w.heap.size (fun k_ => some k_ ≠ ((.slice Ao31 t422.length co31) : Value).ownBlock ∧ some k_ ≠ ((.slice Ao38 t405.length co38) : Value).ownBlock ∧ some k_ ≠ ((.slice Ao125 t436.length co125) : Value).ownBlock) (.slice Ao24 t388.length co24) t388) ∧ Aside0 (Kd.R k88 88 wc w.heap.size (fun k_ => some k_ ≠ ((.slice Ao24 t388.length co24) : Value).ownBlock ∧ some k_ ≠ ((.slice Ao38 t405.length co38) : Value).ownBlock ∧ some k_ ≠ ((.slice Ao125 t436.length co125) : Value).ownBlock) (.slice Ao31 t422.length co31) t422) ∧ Aside0 (Kd.R k88 88 wc w.heap.size (fun k_ => some k_ ≠ ((.slice Ao24 t388.length co24) : Value).ownBlock ∧ some k_ ≠ ((.slice Ao31 t422.length co31) : Value).ownBlock ∧ some k_ ≠ ((.slice Ao125 t436.length co125) : Value).ownBlock) (.slice Ao38 t405.length co38) t425) ∧ Aside0 (Kd.R k88 88 wc w.heap.size (fun k_ => some k_ ≠ ((.slice Ao24 t388.length co24) : Value).ownBlock ∧ some k_ ≠ ((.slice Ao31 t422.length co31) : Value).ownBlock ∧ some k_ ≠ ((.slice Ao38 t405.length co38) : Value).ownBlock) (.slice Ao125 t436.length co125) t436) ∧ Aside0 (wc.heap[gb377]? = some (.cells #[.int .i64 a0_0, .int .i64 a0_1, (.slice A0_2 l0_2.length c0_2), .int .i64 a0_3, .int .i64 a0_4] 26 (0, 0))) ∧ Aside0 (wc.heap[gb394]? = some (.cells #[.int .i64 t386, .int .i64 t387, (.slice Ao24 t388.length co24), .int .i64 t391, .int .i64 t392] 34 (0, 0))) ∧ Aside0 (wc.heap[gb402]? = some (.cells #[.int .i64 t395, .int .i64 t396, (.slice Ao31 t422.length co31), .int .i64 t400, .int .i64 t401] 34 (0, 0))) ∧ Aside0 (wc.heap[gb411]? = some (.cells #[.int .i64 t403, .int .i64 t404, (.slice Ao38 t405.length co38), .int .i64 t408, .int .i64 t409] 34 (0, 0))) ∧ Aside0 (wc.heap[gb442]? = some (.cells #[.int .i64 t434, .int .i64 t435, (.slice Ao125 t436.length co125), .int .i64 t439, .int .i64 t440] 34 (0, 0))) ∧ Aside0 (Below w.heap.size w wc))
     case first =>
      have H := HC105.out
      clear HC105
      replace H := zbd H; obtain ⟨t443, A126, H⟩ := H
      by_cases c127 : t443 = true
      ·subst c127
       have H1 : (laws_FnExactFlySeen.j2 kj61 t424 (t441 != t393) t403 t404 t425 t408 t409) = some r := by rw [if_pos rfl] at H; exact H
       clear H
       have H := H1
       clear H1
       have H' := Aside0.mk H
       clear H
       have hnb128 := NB442_377.out
       have hnc128 := NB377_442.out
       have hnb129 := NB442_394.out
       have hnc129 := NB394_442.out
       have hnb130 := NB442_402.out
       have hnc130 := NB402_442.out
       have hnb131 := NB442_411.out
       have hnc131 := NB411_442.out
       obtain ⟨hcz132_0, hcz132_1, hcz132_2, hcz132_3, hcz132_4⟩ := zd5 BK442
       obtain ⟨hfz132_0, hfz132_1, hfz132_2, hfz132_3, hfz132_4⟩ := zn5 BK442
       have hnb133 := NB394_377.out
       have hnc133 := NB377_394.out
       have hnb134 := NB394_402.out
       have hnc134 := NB402_394.out
       have hnb135 := NB394_411.out
       have hnc135 := NB411_394.out
       obtain ⟨hcz136_0, hcz136_1, hcz136_2, hcz136_3, hcz136_4⟩ := zd5 BK394
       obtain ⟨hfz136_0, hfz136_1, hfz136_2, hfz136_3, hfz136_4⟩ := zn5 BK394
       go_wp2_with (first | ((with_reducible refine gate_callee (f := 21) rfl ?_); refine zgl (N := some 91) Try.func21 #[.agg #[.int .i64 t434, .int .i64 t435, .slice Ao125 t436.length co125, .int .i64 t439, .int .i64 t440], .agg #[.int .i64 t386, .int .i64 t387, .slice Ao24 t388.length co24, .int .i64 t391, .int .i64 t392]] ?_; (with_reducible refine (laws_eqFlyPath.calls kj61 t434 t435 _ _ t436 t439 t440 t386 t387 _ _ t388 t391 t392 true _ ?side1 ?side2 ?side3 ?side4 A126.out).mono ?_); (case side1 => refine (Kd.R_reads' (e := 88) (base := w.heap.size) (ok := fun k_ => ((((True ∧ some k_ ≠ (.slice Ao24 t388.length co24 : Value).ownBlock) ∧ some k_ ≠ (.slice Ao31 t422.length co31 : Value).ownBlock) ∧ some k_ ≠ (.slice Ao38 t405.length co38 : Value).ownBlock) ∧ some k_ ≠ (.slice Ao117 t429.length co117 : Value).ownBlock)) (n := t436.length) (c := co125) ?_).2.2; exact (zRf HO438 BK442 (fun _ h_ => h_.1))); (case side2 => exact (Kd.R_reads' HO438.out).2.1); (case side3 => refine (Kd.R_reads' (e := 88) (base := w.heap.size) (ok := fun k_ => (((some k_ ≠ (.slice Ao31 t422.length co31 : Value).ownBlock ∧ some k_ ≠ (.slice Ao38 t405.length co38 : Value).ownBlock) ∧ some k_ ≠ (.slice Ao117 t429.length co117 : Value).ownBlock) ∧ some k_ ≠ (.slice Ao125 t436.length co125 : Value).ownBlock)) (n := t388.length) (c := co24) ?_).2.2; exact (zRf HO_395002 BK442 (fun _ h_ => h_.1))); (case side4 => exact (Kd.R_reads' HO_395002.out).2.1); rintro e w137 ⟨rfl, hb⟩; refine ⟨_, rfl, ?_⟩; replace HO_395002 := Aside0.mk (Kd.R_below (zRf HO_395002 BK442 (fun _ h_ => h_.1)) hb); replace HO_403002 := Aside0.mk (Kd.R_below (zRf HO_403002 BK442 (fun _ h_ => h_.1)) hb); replace HO_412002 := Aside0.mk (Kd.R_below (zRf HO_412002 BK442 (fun _ h_ => h_.1)) hb); replace HO431 := Aside0.mk (Kd.R_below (zRf HO431 BK442 (fun _ h_ => h_.1)) hb); replace HO438 := Aside0.mk (Kd.R_below (zRf HO438 BK442 (fun _ h_ => h_.1)) hb); replace BK377 := Aside0.mk (blk_below (g := gb377) (o := .cells #[.int .i64 a0_0, .int .i64 a0_1, .slice A0_2 l0_2.length c0_2, .int .i64 a0_3, .int .i64 a0_4] 26 (0, 0)) (zpf BK377 NB377_442) hb); replace BK394 := Aside0.mk (blk_below (g := gb394) (o := .cells #[.int .i64 t386, .int .i64 t387, .slice Ao24 t388.length co24, .int .i64 t391, .int .i64 t392] 34 (0, 0)) (zpf BK394 NB394_442) hb); replace BK402 := Aside0.mk (blk_below (g := gb402) (o := .cells #[.int .i64 t395, .int .i64 t396, .slice Ao31 t422.length co31, .int .i64 t400, .int .i64 t401] 34 (0, 0)) (zpf BK402 NB402_442) hb); replace BK411 := Aside0.mk (blk_below (g := gb411) (o := .cells #[.int .i64 t403, .int .i64 t404, .slice Ao38 t405.length co38, .int .i64 t408, .int .i64 t409] 34 (0, 0)) (zpf BK411 NB411_442) hb); replace BK442 := Aside0.mk (blk_below (g := gb442) (o := .cells #[.int .i64 t434, .int .i64 t435, .slice Ao125 t436.length co125, .int .i64 t439, .int .i64 t440] 34 (0, 0)) (zpb BK442) hb); replace HB := Aside0.mk (below_step (by repeat (first | (with_reducible first | exact HB.out | apply below_alloc | apply pw_below_drewN | apply below_drew1 | refine below_set ?_ GE377.out | refine below_set ?_ GE394.out | refine below_set ?_ GE402.out | refine below_set ?_ GE411.out | refine below_set ?_ GE442.out) | exact HB.out)) hb); (try clear hb); (try clear hb2); (try clear hk); (try clear hi)))
       go_meet
       case rel => exact ⟨_, ((t441 != t393)), zi, H', ⟨by have := HJ12.out; have := HJ61.out; first | omega | exact Nat.le_refl _⟩, ⟨by (try simp only [hl403002_61]); (with_reducible repeat (first | apply Kd.R_alloc | apply Kd.R_drewN | apply Kd.R_drew)); exact Kd.R_mono HO_395002.out (fun _ hk => ⟨hk.1.1.1, ⟨hk.1.1.2, hk.2⟩⟩)⟩, ⟨by (try simp only [hl403002_61]); (with_reducible repeat (first | apply Kd.R_alloc | apply Kd.R_drewN | apply Kd.R_drew)); exact Kd.R_mono HO_403002.out (fun _ hk => ⟨hk.1.1.1, ⟨hk.1.1.2, hk.2⟩⟩)⟩, ⟨by (try simp only [hl403002_61]); (with_reducible repeat (first | apply Kd.R_alloc | apply Kd.R_drewN | apply Kd.R_drew)); exact Kd.R_mono HO_412002.out (fun _ hk => ⟨hk.1.1.1, ⟨hk.1.1.2, hk.2⟩⟩)⟩, ⟨by (try simp only [hl403002_61]); (with_reducible repeat (first | apply Kd.R_alloc | apply Kd.R_drewN | apply Kd.R_drew)); exact Kd.R_mono HO438.out (fun _ hk => ⟨hk.1.1.1.2, ⟨hk.1.1.2, hk.1.2⟩⟩)⟩, ⟨by (try simp only [hl403002_61]); (with_reducible repeat (first | refine blk_drewN ?_ _ | refine blk_drew ?_ | refine blk_alloc ?_ _)); exact BK377.out⟩, ⟨by (try simp only [hl403002_61]); (with_reducible repeat (first | refine blk_drewN ?_ _ | refine blk_drew ?_ | refine blk_alloc ?_ _)); exact BK394.out⟩, ⟨by (try simp only [hl403002_61]); (with_reducible repeat (first | refine blk_drewN ?_ _ | refine blk_drew ?_ | refine blk_alloc ?_ _)); exact BK402.out⟩, ⟨by (try simp only [hl403002_61]); (with_reducible repeat (first | refine blk_drewN ?_ _ | refine blk_drew ?_ | refine blk_alloc ?_ _)); exact BK411.out⟩, ⟨by (try simp only [hl403002_61]); (with_reducible repeat (first | refine blk_drewN ?_ _ | refine blk_drew ?_ | refine blk_alloc ?_ _)); exact BK442.out⟩, ⟨by repeat (first | (with_reducible first | exact HB.out | apply below_alloc | apply pw_below_drewN | apply below_drew1 | refine below_set ?_ GE377.out | refine below_set ?_ GE394.out | refine below_set ?_ GE402.out | refine below_set ?_ GE411.out | refine below_set ?_ GE442.out) | exact HB.out)⟩⟩
      replace c127 := Bool.eq_false_iff.mpr c127
      subst c127
      have H1 : (laws_FnExactFlySeen.j2 kj61 t424 true t403 t404 t425 t408 t409) = some r := by rw [if_neg (show ¬ (false = true) by decide)] at H; exact H
      clear H
      have H := H1
      clear H1
      have H' := Aside0.mk H
      clear H
      have hnb138 := NB442_377.out
      have hnc138 := NB377_442.out
      have hnb139 := NB442_394.out
      have hnc139 := NB394_442.out
      have hnb140 := NB442_402.out
      have hnc140 := NB402_442.out
      have hnb141 := NB442_411.out
      have hnc141 := NB411_442.out
      obtain ⟨hcz142_0, hcz142_1, hcz142_2, hcz142_3, hcz142_4⟩ := zd5 BK442
      obtain ⟨hfz142_0, hfz142_1, hfz142_2, hfz142_3, hfz142_4⟩ := zn5 BK442
      have hnb143 := NB394_377.out
      have hnc143 := NB377_394.out
      have hnb144 := NB394_402.out
      have hnc144 := NB402_394.out
      have hnb145 := NB394_411.out
      have hnc145 := NB411_394.out
      obtain ⟨hcz146_0, hcz146_1, hcz146_2, hcz146_3, hcz146_4⟩ := zd5 BK394
      obtain ⟨hfz146_0, hfz146_1, hfz146_2, hfz146_3, hfz146_4⟩ := zn5 BK394
      go_wp2_with (first | ((with_reducible refine gate_callee (f := 21) rfl ?_); refine zgl (N := some 91) Try.func21 #[.agg #[.int .i64 t434, .int .i64 t435, .slice Ao125 t436.length co125, .int .i64 t439, .int .i64 t440], .agg #[.int .i64 t386, .int .i64 t387, .slice Ao24 t388.length co24, .int .i64 t391, .int .i64 t392]] ?_; (with_reducible refine (laws_eqFlyPath.calls kj61 t434 t435 _ _ t436 t439 t440 t386 t387 _ _ t388 t391 t392 false _ ?side1 ?side2 ?side3 ?side4 A126.out).mono ?_); (case side1 => refine (Kd.R_reads' (e := 88) (base := w.heap.size) (ok := fun k_ => ((((True ∧ some k_ ≠ (.slice Ao24 t388.length co24 : Value).ownBlock) ∧ some k_ ≠ (.slice Ao31 t422.length co31 : Value).ownBlock) ∧ some k_ ≠ (.slice Ao38 t405.length co38 : Value).ownBlock) ∧ some k_ ≠ (.slice Ao117 t429.length co117 : Value).ownBlock)) (n := t436.length) (c := co125) ?_).2.2; exact (zRf HO438 BK442 (fun _ h_ => h_.1))); (case side2 => exact (Kd.R_reads' HO438.out).2.1); (case side3 => refine (Kd.R_reads' (e := 88) (base := w.heap.size) (ok := fun k_ => (((some k_ ≠ (.slice Ao31 t422.length co31 : Value).ownBlock ∧ some k_ ≠ (.slice Ao38 t405.length co38 : Value).ownBlock) ∧ some k_ ≠ (.slice Ao117 t429.length co117 : Value).ownBlock) ∧ some k_ ≠ (.slice Ao125 t436.length co125 : Value).ownBlock)) (n := t388.length) (c := co24) ?_).2.2; exact (zRf HO_395002 BK442 (fun _ h_ => h_.1))); (case side4 => exact (Kd.R_reads' HO_395002.out).2.1); rintro e w147 ⟨rfl, hb⟩; refine ⟨_, rfl, ?_⟩; replace HO_395002 := Aside0.mk (Kd.R_below (zRf HO_395002 BK442 (fun _ h_ => h_.1)) hb); replace HO_403002 := Aside0.mk (Kd.R_below (zRf HO_403002 BK442 (fun _ h_ => h_.1)) hb); replace HO_412002 := Aside0.mk (Kd.R_below (zRf HO_412002 BK442 (fun _ h_ => h_.1)) hb); replace HO431 := Aside0.mk (Kd.R_below (zRf HO431 BK442 (fun _ h_ => h_.1)) hb); replace HO438 := Aside0.mk (Kd.R_below (zRf HO438 BK442 (fun _ h_ => h_.1)) hb); replace BK377 := Aside0.mk (blk_below (g := gb377) (o := .cells #[.int .i64 a0_0, .int .i64 a0_1, .slice A0_2 l0_2.length c0_2, .int .i64 a0_3, .int .i64 a0_4] 26 (0, 0)) (zpf BK377 NB377_442) hb); replace BK394 := Aside0.mk (blk_below (g := gb394) (o := .cells #[.int .i64 t386, .int .i64 t387, .slice Ao24 t388.length co24, .int .i64 t391, .int .i64 t392] 34 (0, 0)) (zpf BK394 NB394_442) hb); replace BK402 := Aside0.mk (blk_below (g := gb402) (o := .cells #[.int .i64 t395, .int .i64 t396, .slice Ao31 t422.length co31, .int .i64 t400, .int .i64 t401] 34 (0, 0)) (zpf BK402 NB402_442) hb); replace BK411 := Aside0.mk (blk_below (g := gb411) (o := .cells #[.int .i64 t403, .int .i64 t404, .slice Ao38 t405.length co38, .int .i64 t408, .int .i64 t409] 34 (0, 0)) (zpf BK411 NB411_442) hb); replace BK442 := Aside0.mk (blk_below (g := gb442) (o := .cells #[.int .i64 t434, .int .i64 t435, .slice Ao125 t436.length co125, .int .i64 t439, .int .i64 t440] 34 (0, 0)) (zpb BK442) hb); replace HB := Aside0.mk (below_step (by repeat (first | (with_reducible first | exact HB.out | apply below_alloc | apply pw_below_drewN | apply below_drew1 | refine below_set ?_ GE377.out | refine below_set ?_ GE394.out | refine below_set ?_ GE402.out | refine below_set ?_ GE411.out | refine below_set ?_ GE442.out) | exact HB.out)) hb); (try clear hb); (try clear hb2); (try clear hk); (try clear hi)))
      go_meet
      case rel => exact ⟨_, (true), zi, H', ⟨by have := HJ12.out; have := HJ61.out; first | omega | exact Nat.le_refl _⟩, ⟨by (try simp only [hl403002_61]); (with_reducible repeat (first | apply Kd.R_alloc | apply Kd.R_drewN | apply Kd.R_drew)); exact Kd.R_mono HO_395002.out (fun _ hk => ⟨hk.1.1.1, ⟨hk.1.1.2, hk.2⟩⟩)⟩, ⟨by (try simp only [hl403002_61]); (with_reducible repeat (first | apply Kd.R_alloc | apply Kd.R_drewN | apply Kd.R_drew)); exact Kd.R_mono HO_403002.out (fun _ hk => ⟨hk.1.1.1, ⟨hk.1.1.2, hk.2⟩⟩)⟩, ⟨by (try simp only [hl403002_61]); (with_reducible repeat (first | apply Kd.R_alloc | apply Kd.R_drewN | apply Kd.R_drew)); exact Kd.R_mono HO_412002.out (fun _ hk => ⟨hk.1.1.1, ⟨hk.1.1.2, hk.2⟩⟩)⟩, ⟨by (try simp only [hl403002_61]); (with_reducible repeat (first | apply Kd.R_alloc | apply Kd.R_drewN | apply Kd.R_drew)); exact Kd.R_mono HO438.out (fun _ hk => ⟨hk.1.1.1.2, ⟨hk.1.1.2, hk.1.2⟩⟩)⟩, ⟨by (try simp only [hl403002_61]); (with_reducible repeat (first | refine blk_drewN ?_ _ | refine blk_drew ?_ | refine blk_alloc ?_ _)); exact BK377.out⟩, ⟨by (try simp only [hl403002_61]); (with_reducible repeat (first | refine blk_drewN ?_ _ | refine blk_drew ?_ | refine blk_alloc ?_ _)); exact BK394.out⟩, ⟨by (try simp only [hl403002_61]); (with_reducible repeat (first | refine blk_drewN ?_ _ | refine blk_drew ?_ | refine blk_alloc ?_ _)); exact BK402.out⟩, ⟨by (try simp only [hl403002_61]); (with_reducible repeat (first | refine blk_drewN ?_ _ | refine blk_drew ?_ | refine blk_alloc ?_ _)); exact BK411.out⟩, ⟨by (try simp only [hl403002_61]); (with_reducible repeat (first | refine blk_drewN ?_ _ | refine blk_drew ?_ | refine blk_alloc ?_ _)); exact BK442.out⟩, ⟨by repeat (first | (with_reducible first | exact HB.out | apply below_alloc | apply pw_below_drewN | apply below_drew1 | refine below_set ?_ GE377.out | refine below_set ?_ GE394.out | refine below_set ?_ GE402.out | refine below_set ?_ GE411.out | refine below_set ?_ GE442.out) | exact HB.out)⟩⟩
     case rest =>
      clear HC105
      try clear c1
      try clear c2
      try clear p2
      try clear c3
      try clear c4
      try clear c5
      try clear c5b0
      try clear c6
      try clear c7
      try clear c8
      try clear c9
      try clear c10
      try clear c11
      try clear c12
      try clear c13
      try clear c14
      try clear c15
      try clear c17
      try clear c21
      try clear c22
      try clear c28
      try clear c29
      try clear c34
      try clear c35
      try clear c36
      try clear c37
      try clear c40
      try clear c41
      try clear c42
      try clear c43
      try clear c45
      try clear c46
      try clear c49
      try clear c50
      try clear c51
      try clear c53
      try clear c54
      try clear c57
      try clear c60
      try clear c67
      try clear c68
      try clear c69
      try clear c72
      try clear c72b0
      try clear c74
      try clear c75
      try clear c76
      try clear c77
      try clear c79
      try clear c80
      try clear c83
      try clear c84
      try clear c85
      try clear c87
      try clear c88
      try clear c91
      try clear c94
      try clear c94b0
      try clear c95
      try clear c96
      try clear c97
      try clear c102
      try clear c102b0
      try clear c102b1
      try clear c106
      try clear c107
      try clear c108
      try clear c113
      try clear c114
      try clear c120
      try clear c121
      try clear c122
      try clear c123
      try clear c127
      try clear c128
      try clear c129
      try clear c130
      try clear c131
      try clear c133
      try clear c134
      try clear c135
      try clear c138
      try clear c139
      try clear c140
      try clear c141
      try clear c143
      try clear c144
      try clear c145
      try clear hcz100_0 hcz100_1 hcz100_2 hcz100_3 hcz100_4
      try clear hcz109_0 hcz109_1 hcz109_2 hcz109_3 hcz109_4
      try clear hcz111_0 hcz111_1 hcz111_2 hcz111_3 hcz111_4
      try clear hcz115_0 hcz115_1 hcz115_2 hcz115_3 hcz115_4
      try clear hcz124_0 hcz124_1 hcz124_2 hcz124_3 hcz124_4
      try clear hcz132_0 hcz132_1 hcz132_2 hcz132_3 hcz132_4
      try clear hcz136_0 hcz136_1 hcz136_2 hcz136_3 hcz136_4
      try clear hcz142_0 hcz142_1 hcz142_2 hcz142_3 hcz142_4
      try clear hcz146_0 hcz146_1 hcz146_2 hcz146_3 hcz146_4
      try clear hcz15_0 hcz15_1 hcz15_2 hcz15_3 hcz15_4
      try clear hcz17_0 hcz17_1 hcz17_2 hcz17_3 hcz17_4
      try clear hcz23_0 hcz23_1 hcz23_2 hcz23_3 hcz23_4
      try clear hcz25_0 hcz25_1 hcz25_2 hcz25_3 hcz25_4
      try clear hcz30_0 hcz30_1 hcz30_2 hcz30_3 hcz30_4
      try clear hcz37_0 hcz37_1 hcz37_2 hcz37_3 hcz37_4
      try clear hcz44_0 hcz44_1 hcz44_2 hcz44_3 hcz44_4
      try clear hcz47_0 hcz47_1 hcz47_2 hcz47_3 hcz47_4
      try clear hcz52_0 hcz52_1 hcz52_2 hcz52_3 hcz52_4
      try clear hcz55_0 hcz55_1 hcz55_2 hcz55_3 hcz55_4
      try clear hcz70_0 hcz70_1 hcz70_2 hcz70_3 hcz70_4
      try clear hcz78_0 hcz78_1 hcz78_2 hcz78_3 hcz78_4
      try clear hcz7_0 hcz7_1 hcz7_2 hcz7_3 hcz7_4
      try clear hcz81_0 hcz81_1 hcz81_2 hcz81_3 hcz81_4
      try clear hcz86_0 hcz86_1 hcz86_2 hcz86_3 hcz86_4
      try clear hcz89_0 hcz89_1 hcz89_2 hcz89_3 hcz89_4
      try clear hcz98_0 hcz98_1 hcz98_2 hcz98_3 hcz98_4
      try clear hfz100_0 hfz100_1 hfz100_2 hfz100_3 hfz100_4
      try clear hfz109_0 hfz109_1 hfz109_2 hfz109_3 hfz109_4
      try clear hfz111_0 hfz111_1 hfz111_2 hfz111_3 hfz111_4
      try clear hfz115_0 hfz115_1 hfz115_2 hfz115_3 hfz115_4
      try clear hfz124_0 hfz124_1 hfz124_2 hfz124_3 hfz124_4
      try clear hfz132_0 hfz132_1 hfz132_2 hfz132_3 hfz132_4
      try clear hfz136_0 hfz136_1 hfz136_2 hfz136_3 hfz136_4
      try clear hfz142_0 hfz142_1 hfz142_2 hfz142_3 hfz142_4
      try clear hfz146_0 hfz146_1 hfz146_2 hfz146_3 hfz146_4
      try clear hfz15_0 hfz15_1 hfz15_2 hfz15_3 hfz15_4
      try clear hfz17_0 hfz17_1 hfz17_2 hfz17_3 hfz17_4
      try clear hfz23_0 hfz23_1 hfz23_2 hfz23_3 hfz23_4
      try clear hfz25_0 hfz25_1 hfz25_2 hfz25_3 hfz25_4
      try clear hfz30_0 hfz30_1 hfz30_2 hfz30_3 hfz30_4
      try clear hfz37_0 hfz37_1 hfz37_2 hfz37_3 hfz37_4
      try clear hfz44_0 hfz44_1 hfz44_2 hfz44_3 hfz44_4
      try clear hfz47_0 hfz47_1 hfz47_2 hfz47_3 hfz47_4
      try clear hfz52_0 hfz52_1 hfz52_2 hfz52_3 hfz52_4
      try clear hfz55_0 hfz55_1 hfz55_2 hfz55_3 hfz55_4
      try clear hfz70_0 hfz70_1 hfz70_2 hfz70_3 hfz70_4
      try clear hfz78_0 hfz78_1 hfz78_2 hfz78_3 hfz78_4
      try clear hfz7_0 hfz7_1 hfz7_2 hfz7_3 hfz7_4
      try clear hfz81_0 hfz81_1 hfz81_2 hfz81_3 hfz81_4
      try clear hfz86_0 hfz86_1 hfz86_2 hfz86_3 hfz86_4
      try clear hfz89_0 hfz89_1 hfz89_2 hfz89_3 hfz89_4
      try clear hfz98_0 hfz98_1 hfz98_2 hfz98_3 hfz98_4
      try clear p2
      obtain ⟨kq, x97_104, rfl, HA, HJ104, HO_395002, HO_403002, HO_412002, HO_443002, BK377, BK394, BK402, BK411, BK442, HB⟩ := hcut
      have hl412002_104 := (Kd.R_reads' HO_412002.out).1
      rw [hl412002_104] at HO_412002
      (try simp only [hl412002_104])
      (try simp only [hl412002_104] at BK377)
      (try simp only [hl412002_104] at BK394)
      (try simp only [hl412002_104] at BK402)
      (try simp only [hl412002_104] at BK411)
      (try simp only [hl412002_104] at BK442)
      (try simp only [hl412002_104] at HO_395002)
      (try simp only [hl412002_104] at HO_403002)
      (try simp only [hl412002_104] at HO_443002)
      cases kq with
      | zero => exact absurd HA.out (by simp [laws_FnExactFlySeen.j2])
      | succ kj104 =>
       have H := HA.out
       clear HA
       simp only [laws_FnExactFlySeen.j2] at H
       by_cases c148 : x97_104 = true
       ·subst c148
        have H1 : (some false) = some r := by rw [if_pos rfl] at H; exact H
        clear H
        have H := H1
        clear H1
        obtain rfl := Option.some.inj H
        go_wp2
        go_ret
        exact ⟨ze, by repeat (first | (with_reducible first | exact HB.out | apply below_alloc | apply pw_below_drewN | apply below_drew1 | refine below_set ?_ GE377.out | refine below_set ?_ GE394.out | refine below_set ?_ GE402.out | refine below_set ?_ GE411.out | refine below_set ?_ GE442.out) | exact HB.out)⟩
       replace c148 := Bool.eq_false_iff.mpr c148
       subst c148
       have H1 : ((laws_heldFlyPath.f kj104 t403 t404 t425 t408 t409 1).bind fun t444 => (if t444 < 0 then (some false) else (if t444 = t424 then (some true) else (some false)))) = some r := by rw [if_neg (show ¬ (false = true) by decide)] at H; exact H
       clear H
       have H := H1
       clear H1
       replace H := zbd H; obtain ⟨t444, A149, H⟩ := H
       by_cases c150 : t444 < 0
       ·rw [if_pos c150] at H
        have c150b0 : decide (t444 < 0) = true := decide_eq_true c150
        clear c150
        obtain rfl := Option.some.inj H
        have hnb151 := NB411_377.out
        have hnc151 := NB377_411.out
        have hnb152 := NB411_394.out
        have hnc152 := NB394_411.out
        have hnb153 := NB411_402.out
        have hnc153 := NB402_411.out
        have hnb154 := NB411_442.out
        have hnc154 := NB442_411.out
        obtain ⟨hcz155_0, hcz155_1, hcz155_2, hcz155_3, hcz155_4⟩ := zd5 BK411
        obtain ⟨hfz155_0, hfz155_1, hfz155_2, hfz155_3, hfz155_4⟩ := zn5 BK411
        go_wp2_with (first | ((with_reducible refine gate_callee (f := 37) rfl ?_); refine zgl (N := some 100) Try.func37 #[.agg #[.int .i64 t403, .int .i64 t404, .slice Ao38 t425.length co38, .int .i64 t408, .int .i64 t409], .int .i64 1] ?_; (with_reducible refine (laws_heldFlyPath.calls kj104 t403 t404 _ _ t425 t408 t409 1 t444 _ ?side1 ?side2 A149.out).mono ?_); (case side1 => repeat (first | exact (Kd.R_reads' HO_412002.out).2.2 | (with_reducible refine Kd.C_alloc ?_ _) | (with_reducible refine Kd.C_drewN ?_ _) | (with_reducible refine Kd.C_drew ?_))); (case side2 => exact (Kd.R_reads' HO_412002.out).2.1); rintro e w156 ⟨rfl, hb⟩; refine ⟨_, rfl, ?_⟩; replace HO_395002 := Aside0.mk (Kd.R_below (zr HO_395002) hb); replace HO_403002 := Aside0.mk (Kd.R_below (zr HO_403002) hb); replace HO_412002 := Aside0.mk (Kd.R_below (zr HO_412002) hb); replace HO_443002 := Aside0.mk (Kd.R_below (zr HO_443002) hb); replace BK377 := zb BK377 hb; replace BK394 := zb BK394 hb; replace BK402 := zb BK402 hb; replace BK411 := zb BK411 hb; replace BK442 := zb BK442 hb; replace HB := Aside0.mk (below_step (by repeat (first | (with_reducible first | exact HB.out | apply below_alloc | apply pw_below_drewN | apply below_drew1 | refine below_set ?_ GE377.out | refine below_set ?_ GE394.out | refine below_set ?_ GE402.out | refine below_set ?_ GE411.out | refine below_set ?_ GE442.out) | exact HB.out)) hb); (try clear hb); (try clear hb2); (try clear hk); (try clear hi)))
        go_ret
        exact ⟨ze, by repeat (first | (with_reducible first | exact HB.out | apply below_alloc | apply pw_below_drewN | apply below_drew1 | refine below_set ?_ GE377.out | refine below_set ?_ GE394.out | refine below_set ?_ GE402.out | refine below_set ?_ GE411.out | refine below_set ?_ GE442.out) | exact HB.out)⟩
       rw [if_neg c150] at H
       have c150b0 : decide (t444 < 0) = false := decide_eq_false c150
       clear c150
       by_cases c157 : t444 = t424
       rotate_left
       ·rw [if_neg c157] at H
        have c157b0 : (t444 == t424) = false := beq_eq_false_iff_ne.mpr c157
        have c157b1 : (t444 != t424) = true := bne_iff_ne.mpr c157
        obtain rfl := Option.some.inj H
        have hnb164 := NB411_377.out
        have hnc164 := NB377_411.out
        have hnb165 := NB411_394.out
        have hnc165 := NB394_411.out
        have hnb166 := NB411_402.out
        have hnc166 := NB402_411.out
        have hnb167 := NB411_442.out
        have hnc167 := NB442_411.out
        obtain ⟨hcz168_0, hcz168_1, hcz168_2, hcz168_3, hcz168_4⟩ := zd5 BK411
        obtain ⟨hfz168_0, hfz168_1, hfz168_2, hfz168_3, hfz168_4⟩ := zn5 BK411
        go_wp2_with (first | ((with_reducible refine gate_callee (f := 37) rfl ?_); refine zgl (N := some 100) Try.func37 #[.agg #[.int .i64 t403, .int .i64 t404, .slice Ao38 t425.length co38, .int .i64 t408, .int .i64 t409], .int .i64 1] ?_; (with_reducible refine (laws_heldFlyPath.calls kj104 t403 t404 _ _ t425 t408 t409 1 t444 _ ?side1 ?side2 A149.out).mono ?_); (case side1 => repeat (first | exact (Kd.R_reads' HO_412002.out).2.2 | (with_reducible refine Kd.C_alloc ?_ _) | (with_reducible refine Kd.C_drewN ?_ _) | (with_reducible refine Kd.C_drew ?_))); (case side2 => exact (Kd.R_reads' HO_412002.out).2.1); rintro e w169 ⟨rfl, hb⟩; refine ⟨_, rfl, ?_⟩; replace HO_395002 := Aside0.mk (Kd.R_below (zr HO_395002) hb); replace HO_403002 := Aside0.mk (Kd.R_below (zr HO_403002) hb); replace HO_412002 := Aside0.mk (Kd.R_below (zr HO_412002) hb); replace HO_443002 := Aside0.mk (Kd.R_below (zr HO_443002) hb); replace BK377 := zb BK377 hb; replace BK394 := zb BK394 hb; replace BK402 := zb BK402 hb; replace BK411 := zb BK411 hb; replace BK442 := zb BK442 hb; replace HB := Aside0.mk (below_step (by repeat (first | (with_reducible first | exact HB.out | apply below_alloc | apply pw_below_drewN | apply below_drew1 | refine below_set ?_ GE377.out | refine below_set ?_ GE394.out | refine below_set ?_ GE402.out | refine below_set ?_ GE411.out | refine below_set ?_ GE442.out) | exact HB.out)) hb); (try clear hb); (try clear hb2); (try clear hk); (try clear hi)))
        go_ret
        exact ⟨ze, by repeat (first | (with_reducible first | exact HB.out | apply below_alloc | apply pw_below_drewN | apply below_drew1 | refine below_set ?_ GE377.out | refine below_set ?_ GE394.out | refine below_set ?_ GE402.out | refine below_set ?_ GE411.out | refine below_set ?_ GE442.out) | exact HB.out)⟩
       rw [if_pos c157] at H
       have c157b0 : (t444 == t424) = true := beq_iff_eq.mpr c157
       have c157b1 : (t444 != t424) = false := bne_eq_false_iff_eq.mpr c157
       clear c157
       obtain rfl := Option.some.inj H
       have hnb158 := NB411_377.out
       have hnc158 := NB377_411.out
       have hnb159 := NB411_394.out
       have hnc159 := NB394_411.out
       have hnb160 := NB411_402.out
       have hnc160 := NB402_411.out
       have hnb161 := NB411_442.out
       have hnc161 := NB442_411.out
       obtain ⟨hcz162_0, hcz162_1, hcz162_2, hcz162_3, hcz162_4⟩ := zd5 BK411
       obtain ⟨hfz162_0, hfz162_1, hfz162_2, hfz162_3, hfz162_4⟩ := zn5 BK411
       go_wp2_with (first | ((with_reducible refine gate_callee (f := 37) rfl ?_); refine zgl (N := some 100) Try.func37 #[.agg #[.int .i64 t403, .int .i64 t404, .slice Ao38 t425.length co38, .int .i64 t408, .int .i64 t409], .int .i64 1] ?_; (with_reducible refine (laws_heldFlyPath.calls kj104 t403 t404 _ _ t425 t408 t409 1 t444 _ ?side1 ?side2 A149.out).mono ?_); (case side1 => repeat (first | exact (Kd.R_reads' HO_412002.out).2.2 | (with_reducible refine Kd.C_alloc ?_ _) | (with_reducible refine Kd.C_drewN ?_ _) | (with_reducible refine Kd.C_drew ?_))); (case side2 => exact (Kd.R_reads' HO_412002.out).2.1); rintro e w163 ⟨rfl, hb⟩; refine ⟨_, rfl, ?_⟩; replace HO_395002 := Aside0.mk (Kd.R_below (zr HO_395002) hb); replace HO_403002 := Aside0.mk (Kd.R_below (zr HO_403002) hb); replace HO_412002 := Aside0.mk (Kd.R_below (zr HO_412002) hb); replace HO_443002 := Aside0.mk (Kd.R_below (zr HO_443002) hb); replace BK377 := zb BK377 hb; replace BK394 := zb BK394 hb; replace BK402 := zb BK402 hb; replace BK411 := zb BK411 hb; replace BK442 := zb BK442 hb; replace HB := Aside0.mk (below_step (by repeat (first | (with_reducible first | exact HB.out | apply below_alloc | apply pw_below_drewN | apply below_drew1 | refine below_set ?_ GE377.out | refine below_set ?_ GE394.out | refine below_set ?_ GE402.out | refine below_set ?_ GE411.out | refine below_set ?_ GE442.out) | exact HB.out)) hb); (try clear hb); (try clear hb2); (try clear hk); (try clear hi)))
       go_ret
       exact ⟨ze, by repeat (first | (with_reducible first | exact HB.out | apply below_alloc | apply pw_below_drewN | apply below_drew1 | refine below_set ?_ GE377.out | refine below_set ?_ GE394.out | refine below_set ?_ GE402.out | refine below_set ?_ GE411.out | refine below_set ?_ GE442.out) | exact HB.out)⟩
end Go.Proofs.Ytidenmcoilmbcaa.QFnExactFlySeen
