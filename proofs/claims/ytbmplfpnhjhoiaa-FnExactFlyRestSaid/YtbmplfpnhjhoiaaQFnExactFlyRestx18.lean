/- The walk of what the law FnExactFlyRest reaches: laid by a program of this session (ownprint.py). -/
import Derived.Test.YtbmplfpnhjhoiaaQFnExactFlyRestx0
import Derived.Test.YtbmplfpnhjhoiaaQFnExactFlyRestx1
import Derived.Test.YtbmplfpnhjhoiaaQFnExactFlyRestx2
import Derived.Test.YtbmplfpnhjhoiaaQFnExactFlyRestx3
import Derived.Test.YtbmplfpnhjhoiaaQFnExactFlyRestx10
import Derived.Test.YtbmplfpnhjhoiaaQFnExactFlyRestx17
namespace Go.Proofs.Ytbmplfpnhjhoiaa.QFnExactFlyRest
open Go.RowKit Go.Proofs.YtbmplfpnhjhoiaaW.PrintWords Go.Proofs.YtbmplfpnhjhoiaaW.PrintLast Go.Proofs.YtbmplfpnhjhoiaaW.PrintMore Go.Proofs.Ytbmplfpnhjhoiaa.Z
attribute [local go_sem] max2_int min2_int max_two min_two max_three min_three max_four min_four zdn   -- for this text's walks alone
set_option linter.unusedVariables false
set_option linter.unusedSimpArgs false
mutual
def laws_FnExactFlyRest.j0 : Nat → Int → Int → Int → Bool → Bool → Bool → Int → Int → List (S170) → Int → Int → Int → Int → List (S132) → Int → Int → Int → Int → List (S132) → Int → Int → Int → Int → List (S132) → Int → Int → Option (Bool)
 | 0, _, _, _, _, _, _, _, _, _, _, _, _, _, _, _, _, _, _, _, _, _, _, _, _, _, _ => none
 | k + 1, x1, x2, x3, x11, x14, x52, x412000, x412001, x412002, x412003, x412004, x429000, x429001, x429002, x429003, x429004, x437000, x437001, x437002, x437003, x437004, x446000, x446001, x446002, x446003, x446004 => if x52 = true then (some false) else ((laws_toFlyPath.f k x412000 x412001 x412002 x412003 x412004).bind fun bt447 => ((laws_eqFlyPath.f k x437000 x437001 x437002 x437003 x437004 bt447.1 bt447.2.1 bt447.2.2.1 bt447.2.2.2.1 bt447.2.2.2.2).bind fun t454 => (if t454 = true then ((laws_markFlyPath.f k x437000 x437001 x437002 x437003 x437004 1).bind fun bt455 => (if bt455.1 < 0 then (laws_FnExactFlyRest.j1 k x1 x2 x3 x11 true x412000 x412001 x412002 x412003 x412004 x429000 x429001 x429002 x429003 x429004 x446000 x446001 x446002 x446003 x446004) else ((laws_eqFlyPath.f k x446000 x446001 x446002 x446003 x446004 x429000 x429001 x429002 x429003 x429004).bind fun t457 => (if t457 = true then (laws_FnExactFlyRest.j1 k x1 x2 x3 x11 (x14 != x11) x412000 x412001 x412002 x412003 x412004 x429000 x429001 x429002 x429003 x429004 x446000 x446001 x446002 x446003 x446004) else (laws_FnExactFlyRest.j1 k x1 x2 x3 x11 true x412000 x412001 x412002 x412003 x412004 x429000 x429001 x429002 x429003 x429004 x446000 x446001 x446002 x446003 x446004))))) else (some false))))
def laws_FnExactFlyRest.j1 : Nat → Int → Int → Int → Bool → Bool → Int → Int → List (S170) → Int → Int → Int → Int → List (S132) → Int → Int → Int → Int → List (S132) → Int → Int → Option (Bool)
 | 0, _, _, _, _, _, _, _, _, _, _, _, _, _, _, _, _, _, _, _, _ => none
 | k + 1, x1, x2, x3, x11, x73, x412000, x412001, x412002, x412003, x412004, x429000, x429001, x429002, x429003, x429004, x446000, x446001, x446002, x446003, x446004 => if x73 = true then (some false) else ((laws_markFlyPath.f k x446000 x446001 x446002 x446003 x446004 1).bind fun bt458 => ((laws_heldFlyPath.f k x446000 x446001 bt458.2 x446003 x446004 1).bind fun t460 => (if t460 < 0 then (some false) else (if t460 = bt458.1 then ((laws_toFlyPath.f k x412000 x412001 x412002 x412003 x412004).bind fun bt461 => ((impl_FlyRest.f k bt461.1 bt461.2.1 bt461.2.2.1 bt461.2.2.2.1 bt461.2.2.2.2 x1 x2 x3).bind fun bt468 => ((laws_eqFlyPath.f k bt468.1 bt468.2.1 bt468.2.2.1 bt468.2.2.2.1 bt468.2.2.2.2.1 x429000 x429001 x429002 x429003 x429004).bind fun t477 => (if t477 = true then (laws_FnExactFlyRest.j2 k bt458.1 (bt468.2.2.2.2.2 != x11) x446000 x446001 bt458.2 x446003 x446004) else (laws_FnExactFlyRest.j2 k bt458.1 true x446000 x446001 bt458.2 x446003 x446004))))) else (some false)))))
def laws_FnExactFlyRest.j2 : Nat → Int → Bool → Int → Int → List (S132) → Int → Int → Option (Bool)
 | 0, _, _, _, _, _, _, _ => none
 | k + 1, x16, x102, x446000, x446001, x446002, x446003, x446004 => if x102 = true then (some false) else ((laws_heldFlyPath.f k x446000 x446001 x446002 x446003 x446004 1).bind fun t478 => (if t478 < 0 then (some false) else (if t478 = x16 then (some true) else (some false))))
end
def laws_FnExactFlyRest.f (k : Nat) (a0_0 : Int) (a0_1 : Int) (l0_2 : List (S170)) (a0_3 : Int) (a0_4 : Int) (a1 : Int) (a2 : Int) (a3 : Int) : Option (Bool) := (laws_szFlyPath.f a0_0 a0_1 l0_2 a0_3 a0_4 1048576).bind fun t412 => (if t412 < 0 then (some true) else ((laws_toFlyPath.f k a0_0 a0_1 l0_2 a0_3 a0_4).bind fun bt413 => ((spec_FlyRest.f k bt413.1 bt413.2.1 bt413.2.2.1 bt413.2.2.2.1 bt413.2.2.2.2 a1 a2 a3).bind fun bt420 => ((laws_toFlyPath.f k a0_0 a0_1 l0_2 a0_3 a0_4).bind fun bt429 => ((impl_FlyRest.f k bt429.1 bt429.2.1 bt429.2.2.1 bt429.2.2.2.1 bt429.2.2.2.2 a1 a2 a3).bind fun bt437 => ((laws_eqFlyPath.f k bt437.1 bt437.2.1 bt437.2.2.1 bt437.2.2.2.1 bt437.2.2.2.2.1 bt420.1 bt420.2.1 bt420.2.2.1 bt420.2.2.2.1 bt420.2.2.2.2.1).bind fun t446 => (if t446 = true then (laws_FnExactFlyRest.j0 k a1 a2 a3 bt420.2.2.2.2.2 bt437.2.2.2.2.2 (bt437.2.2.2.2.2 != bt420.2.2.2.2.2) a0_0 a0_1 l0_2 a0_3 a0_4 bt420.1 bt420.2.1 bt420.2.2.1 bt420.2.2.2.1 bt420.2.2.2.2.1 bt429.1 bt429.2.1 bt429.2.2.1 bt429.2.2.2.1 bt429.2.2.2.2 bt437.1 bt437.2.1 bt437.2.2.1 bt437.2.2.2.1 bt437.2.2.2.2.1) else (laws_FnExactFlyRest.j0 k a1 a2 a3 bt420.2.2.2.2.2 bt437.2.2.2.2.2 true a0_0 a0_1 l0_2 a0_3 a0_4 bt420.1 bt420.2.1 bt420.2.2.1 bt420.2.2.2.1 bt420.2.2.2.2.1 bt429.1 bt429.2.1 bt429.2.2.1 bt429.2.2.2.1 bt429.2.2.2.2 bt437.1 bt437.2.1 bt437.2.2.1 bt437.2.2.2.1 bt437.2.2.2.2.1))))))))
set_option maxHeartbeats 8000000 in
set_option maxRecDepth 100000 in
theorem laws_FnExactFlyRest.calls (k : Nat) (a0_0 : Int) (a0_1 : Int) (A0_2 : Option Addr) (c0_2 : Nat) (l0_2 : List (S170)) (a0_3 : Int) (a0_4 : Int) (a1 : Int) (a2 : Int) (a3 : Int) (r : Bool) (w : World) (hr0_2 : Kd.C k170 w A0_2 l0_2.length l0_2) (hc0_2 : l0_2.length ≤ c0_2) (h : laws_FnExactFlyRest.f k a0_0 a0_1 l0_2 a0_3 a0_4 a1 a2 a3 = some r) :
 Calls Try.prog 13 #[.agg #[.int .i64 a0_0, .int .i64 a0_1, .slice A0_2 l0_2.length c0_2, .int .i64 a0_3, .int .i64 a0_4], .int .i64 a1, .int .i64 a2, .int .i64 a3] w fun e w' => e = .returned (.bool r) ∧ Below w.heap.size w w' := by
 have hu91 := Try.underlying91
 have hu68 := Try.underlying68
 have HR0_2 := zA hr0_2
 have HC0_2 := zA hc0_2
 clear hr0_2 hc0_2
 have HB := zA (Below.refl w.heap.size w)
 have H : ((laws_szFlyPath.f a0_0 a0_1 l0_2 a0_3 a0_4 1048576).bind fun t412 => (if t412 < 0 then (some true) else ((laws_toFlyPath.f k a0_0 a0_1 l0_2 a0_3 a0_4).bind fun bt413 => ((spec_FlyRest.f k bt413.1 bt413.2.1 bt413.2.2.1 bt413.2.2.2.1 bt413.2.2.2.2 a1 a2 a3).bind fun bt420 => ((laws_toFlyPath.f k a0_0 a0_1 l0_2 a0_3 a0_4).bind fun bt429 => ((impl_FlyRest.f k bt429.1 bt429.2.1 bt429.2.2.1 bt429.2.2.2.1 bt429.2.2.2.2 a1 a2 a3).bind fun bt437 => ((laws_eqFlyPath.f k bt437.1 bt437.2.1 bt437.2.2.1 bt437.2.2.2.1 bt437.2.2.2.2.1 bt420.1 bt420.2.1 bt420.2.2.1 bt420.2.2.2.1 bt420.2.2.2.2.1).bind fun t446 => (if t446 = true then (laws_FnExactFlyRest.j0 k a1 a2 a3 bt420.2.2.2.2.2 bt437.2.2.2.2.2 (bt437.2.2.2.2.2 != bt420.2.2.2.2.2) a0_0 a0_1 l0_2 a0_3 a0_4 bt420.1 bt420.2.1 bt420.2.2.1 bt420.2.2.2.1 bt420.2.2.2.2.1 bt429.1 bt429.2.1 bt429.2.2.1 bt429.2.2.2.1 bt429.2.2.2.2 bt437.1 bt437.2.1 bt437.2.2.1 bt437.2.2.2.1 bt437.2.2.2.2.1) else (laws_FnExactFlyRest.j0 k a1 a2 a3 bt420.2.2.2.2.2 bt437.2.2.2.2.2 true a0_0 a0_1 l0_2 a0_3 a0_4 bt420.1 bt420.2.1 bt420.2.2.1 bt420.2.2.2.1 bt420.2.2.2.2.1 bt429.1 bt429.2.1 bt429.2.2.1 bt429.2.2.2.1 bt429.2.2.2.2 bt437.1 bt437.2.1 bt437.2.2.1 bt437.2.2.2.1 bt437.2.2.2.2.1))))))))) = some r := h
 clear h
 replace H := zbd H; obtain ⟨t412, A5, H⟩ := H
 by_cases c6 : t412 < 0
 ·rw [if_pos c6] at H
  have c6b0 : decide (t412 < 0) = true := decide_eq_true c6
  clear c6
  obtain rfl := Option.some.inj H
  go_enter Try.func13, Try.ntmps13
  go_wp2_with (first | ((with_reducible refine gate_dst (N := 4) rfl ?_); refine zbx 4 #[.int .i64 a0_0, .int .i64 a0_1, .slice A0_2 l0_2.length c0_2, .int .i64 a0_3, .int .i64 a0_4] 91 ?_; intro gb411 hg w7 hbox hb; have BK411 := zA hbox; have GW411 := zgs hg (zs0 HB); have GE411 := zgs hg (zs0 HB); replace HB := zE (zs0 HB) hb; clear hb hbox hg; obtain ⟨hcz8_0, hcz8_1, hcz8_2, hcz8_3, hcz8_4⟩ := zd5 BK411; obtain ⟨hfz8_0, hfz8_1, hfz8_2, hfz8_3, hfz8_4⟩ := zn5 BK411) | ((with_reducible refine gate_callee (f := 62) rfl ?_); refine zgl (N := some 22) Try.func62 #[.agg #[.int .i64 a0_0, .int .i64 a0_1, .slice A0_2 l0_2.length c0_2, .int .i64 a0_3, .int .i64 a0_4], .int .i64 1048576] ?_; (with_reducible refine (laws_szFlyPath.calls a0_0 a0_1 _ _ l0_2 a0_3 a0_4 1048576 t412 _ ?side1 ?side2 A5.out).mono ?_); (case side1 => exact zC HR0_2 HB); (case side2 => exact HC0_2.out); rintro e w9 ⟨rfl, hb⟩; refine ⟨_, rfl, ?_⟩; replace BK411 := zb BK411 hb; replace HB := zE (zs1 HB GE411) hb; (try clear hb); (try clear hb2); (try clear hk); (try clear hi)))
  go_ret
  exact ⟨ze, zs1 HB GE411⟩
 rw [if_neg c6] at H
 have c6b0 : decide (t412 < 0) = false := decide_eq_false c6
 clear c6
 replace H := Option.bind_eq_some_iff.mp H
 obtain ⟨⟨t413, t414, t415, t418, t419⟩, A100, H⟩ := H
 replace H : ((spec_FlyRest.f k t413 t414 t415 t418 t419 a1 a2 a3).bind fun bt420 => ((laws_toFlyPath.f k a0_0 a0_1 l0_2 a0_3 a0_4).bind fun bt429 => ((impl_FlyRest.f k bt429.1 bt429.2.1 bt429.2.2.1 bt429.2.2.2.1 bt429.2.2.2.2 a1 a2 a3).bind fun bt437 => ((laws_eqFlyPath.f k bt437.1 bt437.2.1 bt437.2.2.1 bt437.2.2.2.1 bt437.2.2.2.2.1 bt420.1 bt420.2.1 bt420.2.2.1 bt420.2.2.2.1 bt420.2.2.2.2.1).bind fun t446 => (if t446 = true then (laws_FnExactFlyRest.j0 k a1 a2 a3 bt420.2.2.2.2.2 bt437.2.2.2.2.2 (bt437.2.2.2.2.2 != bt420.2.2.2.2.2) a0_0 a0_1 l0_2 a0_3 a0_4 bt420.1 bt420.2.1 bt420.2.2.1 bt420.2.2.2.1 bt420.2.2.2.2.1 bt429.1 bt429.2.1 bt429.2.2.1 bt429.2.2.2.1 bt429.2.2.2.2 bt437.1 bt437.2.1 bt437.2.2.1 bt437.2.2.2.1 bt437.2.2.2.2.1) else (laws_FnExactFlyRest.j0 k a1 a2 a3 bt420.2.2.2.2.2 bt437.2.2.2.2.2 true a0_0 a0_1 l0_2 a0_3 a0_4 bt420.1 bt420.2.1 bt420.2.2.1 bt420.2.2.2.1 bt420.2.2.2.2.1 bt429.1 bt429.2.1 bt429.2.2.1 bt429.2.2.2.1 bt429.2.2.2.2 bt437.1 bt437.2.1 bt437.2.2.1 bt437.2.2.2.1 bt437.2.2.2.2.1)))))) = some r := H
 have A10 := zA A100
 clear A100
 replace H := Option.bind_eq_some_iff.mp H
 obtain ⟨⟨t420, t421, t422, t425, t426, t427⟩, A110, H⟩ := H
 replace H : ((laws_toFlyPath.f k a0_0 a0_1 l0_2 a0_3 a0_4).bind fun bt429 => ((impl_FlyRest.f k bt429.1 bt429.2.1 bt429.2.2.1 bt429.2.2.2.1 bt429.2.2.2.2 a1 a2 a3).bind fun bt437 => ((laws_eqFlyPath.f k bt437.1 bt437.2.1 bt437.2.2.1 bt437.2.2.2.1 bt437.2.2.2.2.1 t420 t421 t422 t425 t426).bind fun t446 => (if t446 = true then (laws_FnExactFlyRest.j0 k a1 a2 a3 t427 bt437.2.2.2.2.2 (bt437.2.2.2.2.2 != t427) a0_0 a0_1 l0_2 a0_3 a0_4 t420 t421 t422 t425 t426 bt429.1 bt429.2.1 bt429.2.2.1 bt429.2.2.2.1 bt429.2.2.2.2 bt437.1 bt437.2.1 bt437.2.2.1 bt437.2.2.2.1 bt437.2.2.2.2.1) else (laws_FnExactFlyRest.j0 k a1 a2 a3 t427 bt437.2.2.2.2.2 true a0_0 a0_1 l0_2 a0_3 a0_4 t420 t421 t422 t425 t426 bt429.1 bt429.2.1 bt429.2.2.1 bt429.2.2.2.1 bt429.2.2.2.2 bt437.1 bt437.2.1 bt437.2.2.1 bt437.2.2.2.1 bt437.2.2.2.2.1))))) = some r := H
 have A11 := zA A110
 clear A110
 replace H := Option.bind_eq_some_iff.mp H
 obtain ⟨⟨t429, t430, t431, t434, t435⟩, A120, H⟩ := H
 replace H : ((impl_FlyRest.f k t429 t430 t431 t434 t435 a1 a2 a3).bind fun bt437 => ((laws_eqFlyPath.f k bt437.1 bt437.2.1 bt437.2.2.1 bt437.2.2.2.1 bt437.2.2.2.2.1 t420 t421 t422 t425 t426).bind fun t446 => (if t446 = true then (laws_FnExactFlyRest.j0 k a1 a2 a3 t427 bt437.2.2.2.2.2 (bt437.2.2.2.2.2 != t427) a0_0 a0_1 l0_2 a0_3 a0_4 t420 t421 t422 t425 t426 t429 t430 t431 t434 t435 bt437.1 bt437.2.1 bt437.2.2.1 bt437.2.2.2.1 bt437.2.2.2.2.1) else (laws_FnExactFlyRest.j0 k a1 a2 a3 t427 bt437.2.2.2.2.2 true a0_0 a0_1 l0_2 a0_3 a0_4 t420 t421 t422 t425 t426 t429 t430 t431 t434 t435 bt437.1 bt437.2.1 bt437.2.2.1 bt437.2.2.2.1 bt437.2.2.2.2.1)))) = some r := H
 have A12 := zA A120
 clear A120
 replace H := Option.bind_eq_some_iff.mp H
 obtain ⟨⟨t437, t438, t439, t442, t443, t444⟩, A130, H⟩ := H
 replace H : ((laws_eqFlyPath.f k t437 t438 t439 t442 t443 t420 t421 t422 t425 t426).bind fun t446 => (if t446 = true then (laws_FnExactFlyRest.j0 k a1 a2 a3 t427 t444 (t444 != t427) a0_0 a0_1 l0_2 a0_3 a0_4 t420 t421 t422 t425 t426 t429 t430 t431 t434 t435 t437 t438 t439 t442 t443) else (laws_FnExactFlyRest.j0 k a1 a2 a3 t427 t444 true a0_0 a0_1 l0_2 a0_3 a0_4 t420 t421 t422 t425 t426 t429 t430 t431 t434 t435 t437 t438 t439 t442 t443))) = some r := H
 have A13 := zA A130
 clear A130
 have HC14 := zA H
 clear H
 go_enter Try.func13, Try.ntmps13
 go_upto_region 8 with (first | ((with_reducible refine gate_dst (N := 4) rfl ?_); refine zbx 4 #[.int .i64 a0_0, .int .i64 a0_1, .slice A0_2 l0_2.length c0_2, .int .i64 a0_3, .int .i64 a0_4] 91 ?_; intro gb411 hg w15 hbox hb; have BK411 := zA hbox; have GW411 := zgs hg (zs0 HB); have GE411 := zgs hg (zs0 HB); replace HB := zE (zs0 HB) hb; clear hb hbox hg; obtain ⟨hcz16_0, hcz16_1, hcz16_2, hcz16_3, hcz16_4⟩ := zd5 BK411; obtain ⟨hfz16_0, hfz16_1, hfz16_2, hfz16_3, hfz16_4⟩ := zn5 BK411) | ((with_reducible refine gate_callee (f := 62) rfl ?_); refine zgl (N := some 22) Try.func62 #[.agg #[.int .i64 a0_0, .int .i64 a0_1, .slice A0_2 l0_2.length c0_2, .int .i64 a0_3, .int .i64 a0_4], .int .i64 1048576] ?_; (with_reducible refine (laws_szFlyPath.calls a0_0 a0_1 _ _ l0_2 a0_3 a0_4 1048576 t412 _ ?side1 ?side2 A5.out).mono ?_); (case side1 => exact zC HR0_2 HB); (case side2 => exact HC0_2.out); rintro e w17 ⟨rfl, hb⟩; refine ⟨_, rfl, ?_⟩; replace BK411 := zb BK411 hb; replace HB := zE (zs1 HB GE411) hb; (try clear hb); (try clear hb2); (try clear hk); (try clear hi); obtain ⟨hcz18_0, hcz18_1, hcz18_2, hcz18_3, hcz18_4⟩ := zd5 BK411; obtain ⟨hfz18_0, hfz18_1, hfz18_2, hfz18_3, hfz18_4⟩ := zn5 BK411) | ((with_reducible refine gate_callee (f := 64) rfl ?_); refine zgl (N := some 27) Try.func64 #[.agg #[.int .i64 a0_0, .int .i64 a0_1, .slice A0_2 l0_2.length c0_2, .int .i64 a0_3, .int .i64 a0_4]] ?_; (with_reducible refine (laws_toFlyPath.calls k a0_0 a0_1 _ _ l0_2 a0_3 a0_4 t413 t414 t415 t418 t419 _ ?side1 ?side2 A10.out).mono ?_); (case side1 => exact zC HR0_2 HB); (case side2 => exact HC0_2.out); rintro e w19 ⟨v416, rfl, ho0, hb⟩; refine ⟨_, rfl, ?_⟩; have HO417 := zA (Kd.R_lower ho0 (below_size (zs1 HB GE411))); replace BK411 := zb BK411 hb; replace HB := zE (zs1 HB GE411) hb; (try clear hb); (try clear hb2); (try clear hk); (try clear hi); (try clear ho0); obtain ⟨Ao20, co20, eo20⟩ := Kd.R_slice HO417.out; subst eo20) | ((with_reducible refine gate_callee (f := 71) rfl ?_); refine zgl (N := some 31) Try.func71 #[.agg #[.int .i64 t413, .int .i64 t414, .slice Ao20 t415.length co20, .int .i64 t418, .int .i64 t419], .int .i64 a1, .int .i64 a2, .int .i64 a3] ?_; (with_reducible refine (spec_FlyRest.calls k t413 t414 _ _ t415 t418 t419 a1 a2 a3 t420 t421 t422 t425 t426 t427 _ ?side1 ?side2 A11.out).mono ?_); (case side1 => repeat (first | exact (Kd.R_reads' HO417.out).2.2 | (with_reducible refine Kd.C_alloc ?_ _) | (with_reducible refine Kd.C_drewN ?_ _) | (with_reducible refine Kd.C_drew ?_))); (case side2 => exact (Kd.R_reads' HO417.out).2.1); rintro e w21 ⟨v423, rfl, ho0, hb⟩; refine ⟨_, rfl, ?_⟩; have HO424 := zA (Kd.R_lower (Kd.R_new' ho0 (Kd.R_lt (zr HO417))) (below_size (zs1 HB GE411))); replace HO417 := zA (Kd.R_elder' (zr HO417) (Kd.R_base ho0) hb); replace BK411 := zb BK411 hb; replace HB := zE (zs1 HB GE411) hb; (try clear hb); (try clear hb2); (try clear hk); (try clear hi); (try clear ho0)) | ((with_reducible refine gate_dst (N := 10) rfl ?_); refine zbx 10 #[.int .i64 0, .int .i64 0, .slice none 0 0, .int .i64 0, .int .i64 0] 68 ?_; intro gb428 hg w22 hbox hb; have BK428 := zA hbox; have GW428 := zgs hg (zs1 HB GE411); have GE428 := zgs hg (zs1 HB GE411); have NB411_428 := zne hg BK411; have NB428_411 := znf hg BK411; replace HO417 := zA (Kd.R_below (zr HO417) hb); replace HO424 := zA (Kd.R_below (zr HO424) hb); replace BK411 := zb BK411 hb; replace HB := zE (zs1 HB GE411) hb; clear hb hbox hg; have hnb23 := NB428_411.out; have hnc23 := NB411_428.out; obtain ⟨hcz24_0, hcz24_1, hcz24_2, hcz24_3, hcz24_4⟩ := zd5 BK428; obtain ⟨hfz24_0, hfz24_1, hfz24_2, hfz24_3, hfz24_4⟩ := zn5 BK428; obtain ⟨Ao25, co25, eo25⟩ := Kd.R_slice HO424.out; subst eo25; obtain ⟨hcz26_0, hcz26_1, hcz26_2, hcz26_3, hcz26_4⟩ := zd5 BK411; obtain ⟨hfz26_0, hfz26_1, hfz26_2, hfz26_3, hfz26_4⟩ := zn5 BK411) | ((with_reducible refine gate_callee (f := 64) rfl ?_); refine zgl (N := some 35) Try.func64 #[.agg #[.int .i64 a0_0, .int .i64 a0_1, .slice A0_2 l0_2.length c0_2, .int .i64 a0_3, .int .i64 a0_4]] ?_; (with_reducible refine (laws_toFlyPath.calls k a0_0 a0_1 _ _ l0_2 a0_3 a0_4 t429 t430 t431 t434 t435 _ ?side1 ?side2 A12.out).mono ?_); (case side1 => exact Kd.C_below HR0_2.out (zs2 HB GE411 GE428)); (case side2 => exact HC0_2.out); rintro e w27 ⟨v432, rfl, ho0, hb⟩; refine ⟨_, rfl, ?_⟩; have HO433 := zA (Kd.R_lower (Kd.R_new' (Kd.R_new' ho0 (Kd.R_lt (zRf HO417 BK428 (fun _ h_ => h_.1)))) (Kd.R_lt (zRf HO424 BK428 (fun _ h_ => h_.1)))) (below_size (zs2 HB GE411 GE428))); replace HO417 := zA (Kd.R_elder' (zRf HO417 BK428 (fun _ h_ => h_.1)) (Kd.R_base ho0) hb); replace HO424 := zA (Kd.R_elder' (zRf HO424 BK428 (fun _ h_ => h_.1)) (Kd.R_base ho0) hb); replace BK411 := zA (blk_below (g := gb411) (o := .cells #[.int .i64 a0_0, .int .i64 a0_1, .slice A0_2 l0_2.length c0_2, .int .i64 a0_3, .int .i64 a0_4] 91 (0, 0)) (zpf BK411 NB411_428) hb); replace BK428 := zA (blk_below (g := gb428) (o := .cells #[.int .i64 t420, .int .i64 t421, .slice Ao25 t422.length co25, .int .i64 t425, .int .i64 t426] 68 (0, 0)) (zpb BK428) hb); replace HB := zE (zs2 HB GE411 GE428) hb; (try clear hb); (try clear hb2); (try clear hk); (try clear hi); (try clear ho0)) | ((with_reducible refine gate_dst (N := 12) rfl ?_); refine zbx 12 #[.int .i64 0, .int .i64 0, .slice none 0 0, .int .i64 0, .int .i64 0] 68 ?_; intro gb436 hg w28 hbox hb; have BK436 := zA hbox; have GW436 := zgs hg (zs2 HB GE411 GE428); have GE436 := zgs hg (zs2 HB GE411 GE428); have NB411_436 := zne hg BK411; have NB436_411 := znf hg BK411; have NB428_436 := zne hg BK428; have NB436_428 := znf hg BK428; replace HO417 := zA (Kd.R_below (zr HO417) hb); replace HO424 := zA (Kd.R_below (zr HO424) hb); replace HO433 := zA (Kd.R_below (zr HO433) hb); replace BK411 := zb BK411 hb; replace BK428 := zb BK428 hb; replace HB := zE (zs2 HB GE411 GE428) hb; clear hb hbox hg; have hnb29 := NB436_411.out; have hnc29 := NB411_436.out; have hnb30 := NB436_428.out; have hnc30 := NB428_436.out; obtain ⟨hcz31_0, hcz31_1, hcz31_2, hcz31_3, hcz31_4⟩ := zd5 BK436; obtain ⟨hfz31_0, hfz31_1, hfz31_2, hfz31_3, hfz31_4⟩ := zn5 BK436; obtain ⟨Ao32, co32, eo32⟩ := Kd.R_slice HO433.out; subst eo32) | ((with_reducible refine gate_callee (f := 72) rfl ?_); refine zgl (N := some 41) Try.func72 #[.agg #[.int .i64 t429, .int .i64 t430, .slice Ao32 t431.length co32, .int .i64 t434, .int .i64 t435], .int .i64 a1, .int .i64 a2, .int .i64 a3] ?_; (with_reducible refine (impl_FlyRest.calls k t429 t430 _ _ t431 t434 t435 a1 a2 a3 t437 t438 t439 t442 t443 t444 _ ?side1 ?side2 A13.out).mono ?_); (case side1 => refine (Kd.R_reads' (e := 132) (base := w.heap.size) (ok := fun k_ => ((True ∧ some k_ ≠ (.slice Ao20 t415.length co20 : Value).ownBlock) ∧ some k_ ≠ (.slice Ao25 t422.length co25 : Value).ownBlock)) (n := t431.length) (c := co32) ?_).2.2; exact (zRf HO433 BK436 (fun _ h_ => h_.1))); (case side2 => exact (Kd.R_reads' HO433.out).2.1); rintro e w33 ⟨v440, rfl, ho0, hb⟩; refine ⟨_, rfl, ?_⟩; have HO441 := zA (Kd.R_lower (Kd.R_new' (Kd.R_new' (Kd.R_new' ho0 (Kd.R_lt (zRf HO417 BK436 (fun _ h_ => h_.1)))) (Kd.R_lt (zRf HO424 BK436 (fun _ h_ => h_.1)))) (Kd.R_lt (zRf HO433 BK436 (fun _ h_ => h_.1)))) (below_size (zs3 HB GE411 GE428 GE436))); replace HO417 := zA (Kd.R_elder' (zRf HO417 BK436 (fun _ h_ => h_.1)) (Kd.R_base ho0) hb); replace HO424 := zA (Kd.R_elder' (zRf HO424 BK436 (fun _ h_ => h_.1)) (Kd.R_base ho0) hb); replace HO433 := zA (Kd.R_elder' (zRf HO433 BK436 (fun _ h_ => h_.1)) (Kd.R_base ho0) hb); replace BK411 := zA (blk_below (g := gb411) (o := .cells #[.int .i64 a0_0, .int .i64 a0_1, .slice A0_2 l0_2.length c0_2, .int .i64 a0_3, .int .i64 a0_4] 91 (0, 0)) (zpf BK411 NB411_436) hb); replace BK428 := zA (blk_below (g := gb428) (o := .cells #[.int .i64 t420, .int .i64 t421, .slice Ao25 t422.length co25, .int .i64 t425, .int .i64 t426] 68 (0, 0)) (zpf BK428 NB428_436) hb); replace BK436 := zA (blk_below (g := gb436) (o := .cells #[.int .i64 t429, .int .i64 t430, .slice Ao32 t431.length co32, .int .i64 t434, .int .i64 t435] 68 (0, 0)) (zpb BK436) hb); replace HB := zE (zs3 HB GE411 GE428 GE436) hb; (try clear hb); (try clear hb2); (try clear hk); (try clear hi); (try clear ho0)) | ((with_reducible refine gate_dst (N := 13) rfl ?_); refine zbx 13 #[.int .i64 0, .int .i64 0, .slice none 0 0, .int .i64 0, .int .i64 0] 68 ?_; intro gb445 hg w34 hbox hb; have BK445 := zA hbox; have GW445 := zgs hg (zs3 HB GE411 GE428 GE436); have GE445 := zgs hg (zs3 HB GE411 GE428 GE436); have NB411_445 := zne hg BK411; have NB445_411 := znf hg BK411; have NB428_445 := zne hg BK428; have NB445_428 := znf hg BK428; have NB436_445 := zne hg BK436; have NB445_436 := znf hg BK436; replace HO417 := zA (Kd.R_below (zr HO417) hb); replace HO424 := zA (Kd.R_below (zr HO424) hb); replace HO433 := zA (Kd.R_below (zr HO433) hb); replace HO441 := zA (Kd.R_below (zr HO441) hb); replace BK411 := zb BK411 hb; replace BK428 := zb BK428 hb; replace BK436 := zb BK436 hb; replace HB := zE (zs3 HB GE411 GE428 GE436) hb; clear hb hbox hg; have hnb35 := NB445_411.out; have hnc35 := NB411_445.out; have hnb36 := NB445_428.out; have hnc36 := NB428_445.out; have hnb37 := NB445_436.out; have hnc37 := NB436_445.out; obtain ⟨hcz38_0, hcz38_1, hcz38_2, hcz38_3, hcz38_4⟩ := zd5 BK445; obtain ⟨hfz38_0, hfz38_1, hfz38_2, hfz38_3, hfz38_4⟩ := zn5 BK445; obtain ⟨Ao39, co39, eo39⟩ := Kd.R_slice HO441.out; subst eo39))
 (try simp only [Act.put, List.setIfInBounds_toArray, List.set_cons_zero, List.set_cons_succ])
 go_cut [52] (fun v52 wc => ∃ (kq : Nat) (x52_13 : Bool), v52 = .bool x52_13 ∧ Aside0 (laws_FnExactFlyRest.j0 kq a1 a2 a3 t427 t444 x52_13 a0_0 a0_1 l0_2 a0_3 a0_4 t420 t421 t422 t425 t426 t429 t430 t431 t434 t435 t437 t438 t439 t442 t443 = some r) ∧ Aside0 (kq ≤ k) ∧ Aside0 (Kd.R k132 132 wc w.heap.size (fun k_ => some k_ ≠ ((.slice Ao32 t431.length co32) : Value).ownBlock ∧ some k_ ≠ ((.slice Ao39 t439.length co39) : Value).ownBlock) (.slice Ao25 t422.length co25) t422) ∧ Aside0 (Kd.R k132 132 wc w.heap.size (fun k_ => some k_ ≠ ((.slice Ao25 t422.length co25) : Value).ownBlock ∧ some k_ ≠ ((.slice Ao39 t439.length co39) : Value).ownBlock) (.slice Ao32 t431.length co32) t431) ∧ Aside0 (Kd.R k132 132 wc w.heap.size (fun k_ => some k_ ≠ ((.slice Ao25 t422.length co25) : Value).ownBlock ∧ some k_ ≠ ((.slice Ao32 t431.length co32) : Value).ownBlock) (.slice Ao39 t439.length co39) t439) ∧ Aside0 (wc.heap[gb411]? = some (.cells #[.int .i64 a0_0, .int .i64 a0_1, (.slice A0_2 l0_2.length c0_2), .int .i64 a0_3, .int .i64 a0_4] 91 (0, 0))) ∧ Aside0 (wc.heap[gb428]? = some (.cells #[.int .i64 t420, .int .i64 t421, (.slice Ao25 t422.length co25), .int .i64 t425, .int .i64 t426] 68 (0, 0))) ∧ Aside0 (wc.heap[gb436]? = some (.cells #[.int .i64 t429, .int .i64 t430, (.slice Ao32 t431.length co32), .int .i64 t434, .int .i64 t435] 68 (0, 0))) ∧ Aside0 (wc.heap[gb445]? = some (.cells #[.int .i64 t437, .int .i64 t438, (.slice Ao39 t439.length co39), .int .i64 t442, .int .i64 t443] 68 (0, 0))) ∧ Aside0 (Below w.heap.size w wc))
 case first =>
  have H := HC14.out
  clear HC14
  replace H := zbd H; obtain ⟨t446, A40, H⟩ := H
  by_cases c41 : t446 = true
  ·subst c41
   have H1 : (laws_FnExactFlyRest.j0 k a1 a2 a3 t427 t444 (t444 != t427) a0_0 a0_1 l0_2 a0_3 a0_4 t420 t421 t422 t425 t426 t429 t430 t431 t434 t435 t437 t438 t439 t442 t443) = some r := by rw [if_pos rfl] at H; exact H
   clear H
   have H := H1
   clear H1
   have H' := zA H
   clear H
   have hnb42 := NB445_411.out
   have hnc42 := NB411_445.out
   have hnb43 := NB445_428.out
   have hnc43 := NB428_445.out
   have hnb44 := NB445_436.out
   have hnc44 := NB436_445.out
   obtain ⟨hcz45_0, hcz45_1, hcz45_2, hcz45_3, hcz45_4⟩ := zd5 BK445
   obtain ⟨hfz45_0, hfz45_1, hfz45_2, hfz45_3, hfz45_4⟩ := zn5 BK445
   have hnb46 := NB428_411.out
   have hnc46 := NB411_428.out
   have hnb47 := NB428_436.out
   have hnc47 := NB436_428.out
   obtain ⟨hcz48_0, hcz48_1, hcz48_2, hcz48_3, hcz48_4⟩ := zd5 BK428
   obtain ⟨hfz48_0, hfz48_1, hfz48_2, hfz48_3, hfz48_4⟩ := zn5 BK428
   go_wp2_with (first | ((with_reducible refine gate_callee (f := 46) rfl ?_); refine zgl (N := some 46) Try.func46 #[.agg #[.int .i64 t437, .int .i64 t438, .slice Ao39 t439.length co39, .int .i64 t442, .int .i64 t443], .agg #[.int .i64 t420, .int .i64 t421, .slice Ao25 t422.length co25, .int .i64 t425, .int .i64 t426]] ?_; (with_reducible refine (laws_eqFlyPath.calls k t437 t438 _ _ t439 t442 t443 t420 t421 _ _ t422 t425 t426 true _ ?side1 ?side2 ?side3 ?side4 A40.out).mono ?_); (case side1 => refine (Kd.R_reads' (e := 132) (base := w.heap.size) (ok := fun k_ => (((True ∧ some k_ ≠ (.slice Ao20 t415.length co20 : Value).ownBlock) ∧ some k_ ≠ (.slice Ao25 t422.length co25 : Value).ownBlock) ∧ some k_ ≠ (.slice Ao32 t431.length co32 : Value).ownBlock)) (n := t439.length) (c := co39) ?_).2.2; exact (zRf HO441 BK445 (fun _ h_ => h_.1))); (case side2 => exact (Kd.R_reads' HO441.out).2.1); (case side3 => refine (Kd.R_reads' (e := 132) (base := w.heap.size) (ok := fun k_ => (((True ∧ some k_ ≠ (.slice Ao20 t415.length co20 : Value).ownBlock) ∧ some k_ ≠ (.slice Ao32 t431.length co32 : Value).ownBlock) ∧ some k_ ≠ (.slice Ao39 t439.length co39 : Value).ownBlock)) (n := t422.length) (c := co25) ?_).2.2; exact (zRf HO424 BK445 (fun _ h_ => h_.1))); (case side4 => exact (Kd.R_reads' HO424.out).2.1); rintro e w49 ⟨rfl, hb⟩; refine ⟨_, rfl, ?_⟩; replace HO417 := zA (Kd.R_below (zRf HO417 BK445 (fun _ h_ => h_.1)) hb); replace HO424 := zA (Kd.R_below (zRf HO424 BK445 (fun _ h_ => h_.1)) hb); replace HO433 := zA (Kd.R_below (zRf HO433 BK445 (fun _ h_ => h_.1)) hb); replace HO441 := zA (Kd.R_below (zRf HO441 BK445 (fun _ h_ => h_.1)) hb); replace BK411 := zA (blk_below (g := gb411) (o := .cells #[.int .i64 a0_0, .int .i64 a0_1, .slice A0_2 l0_2.length c0_2, .int .i64 a0_3, .int .i64 a0_4] 91 (0, 0)) (zpf BK411 NB411_445) hb); replace BK428 := zA (blk_below (g := gb428) (o := .cells #[.int .i64 t420, .int .i64 t421, .slice Ao25 t422.length co25, .int .i64 t425, .int .i64 t426] 68 (0, 0)) (zpf BK428 NB428_445) hb); replace BK436 := zA (blk_below (g := gb436) (o := .cells #[.int .i64 t429, .int .i64 t430, .slice Ao32 t431.length co32, .int .i64 t434, .int .i64 t435] 68 (0, 0)) (zpf BK436 NB436_445) hb); replace BK445 := zA (blk_below (g := gb445) (o := .cells #[.int .i64 t437, .int .i64 t438, .slice Ao39 t439.length co39, .int .i64 t442, .int .i64 t443] 68 (0, 0)) (zpb BK445) hb); replace HB := zA (below_step (by repeat (first | (with_reducible first | exact HB.out | apply below_alloc | apply pw_below_drewN | apply below_drew1 | refine below_set ?_ GE411.out | refine below_set ?_ GE428.out | refine below_set ?_ GE436.out | refine below_set ?_ GE445.out) | exact HB.out)) hb); (try clear hb); (try clear hb2); (try clear hk); (try clear hi)))
   go_meet
   case rel => exact ⟨_, ((t444 != t427)), zi, H', ⟨by first | omega | exact Nat.le_refl _⟩, ⟨by (with_reducible repeat (first | apply Kd.R_alloc | apply Kd.R_drewN | apply Kd.R_drew)); exact Kd.R_mono HO424.out (fun _ hk => ⟨hk.1.2, hk.2⟩)⟩, ⟨by (with_reducible repeat (first | apply Kd.R_alloc | apply Kd.R_drewN | apply Kd.R_drew)); exact Kd.R_mono HO433.out (fun _ hk => ⟨hk.1.2, hk.2⟩)⟩, ⟨by (with_reducible repeat (first | apply Kd.R_alloc | apply Kd.R_drewN | apply Kd.R_drew)); exact Kd.R_mono HO441.out (fun _ hk => ⟨hk.1.2, hk.2⟩)⟩, ⟨zh BK411⟩, ⟨zh BK428⟩, ⟨zh BK436⟩, ⟨zh BK445⟩, ⟨by repeat (first | (with_reducible first | exact HB.out | apply below_alloc | apply pw_below_drewN | apply below_drew1 | refine below_set ?_ GE411.out | refine below_set ?_ GE428.out | refine below_set ?_ GE436.out | refine below_set ?_ GE445.out) | exact HB.out)⟩⟩
  replace c41 := Bool.eq_false_iff.mpr c41
  subst c41
  have H1 : (laws_FnExactFlyRest.j0 k a1 a2 a3 t427 t444 true a0_0 a0_1 l0_2 a0_3 a0_4 t420 t421 t422 t425 t426 t429 t430 t431 t434 t435 t437 t438 t439 t442 t443) = some r := by rw [if_neg (show ¬ (false = true) by decide)] at H; exact H
  clear H
  have H := H1
  clear H1
  have H' := zA H
  clear H
  have hnb50 := NB445_411.out
  have hnc50 := NB411_445.out
  have hnb51 := NB445_428.out
  have hnc51 := NB428_445.out
  have hnb52 := NB445_436.out
  have hnc52 := NB436_445.out
  obtain ⟨hcz53_0, hcz53_1, hcz53_2, hcz53_3, hcz53_4⟩ := zd5 BK445
  obtain ⟨hfz53_0, hfz53_1, hfz53_2, hfz53_3, hfz53_4⟩ := zn5 BK445
  have hnb54 := NB428_411.out
  have hnc54 := NB411_428.out
  have hnb55 := NB428_436.out
  have hnc55 := NB436_428.out
  obtain ⟨hcz56_0, hcz56_1, hcz56_2, hcz56_3, hcz56_4⟩ := zd5 BK428
  obtain ⟨hfz56_0, hfz56_1, hfz56_2, hfz56_3, hfz56_4⟩ := zn5 BK428
  go_wp2_with (first | ((with_reducible refine gate_callee (f := 46) rfl ?_); refine zgl (N := some 46) Try.func46 #[.agg #[.int .i64 t437, .int .i64 t438, .slice Ao39 t439.length co39, .int .i64 t442, .int .i64 t443], .agg #[.int .i64 t420, .int .i64 t421, .slice Ao25 t422.length co25, .int .i64 t425, .int .i64 t426]] ?_; (with_reducible refine (laws_eqFlyPath.calls k t437 t438 _ _ t439 t442 t443 t420 t421 _ _ t422 t425 t426 false _ ?side1 ?side2 ?side3 ?side4 A40.out).mono ?_); (case side1 => refine (Kd.R_reads' (e := 132) (base := w.heap.size) (ok := fun k_ => (((True ∧ some k_ ≠ (.slice Ao20 t415.length co20 : Value).ownBlock) ∧ some k_ ≠ (.slice Ao25 t422.length co25 : Value).ownBlock) ∧ some k_ ≠ (.slice Ao32 t431.length co32 : Value).ownBlock)) (n := t439.length) (c := co39) ?_).2.2; exact (zRf HO441 BK445 (fun _ h_ => h_.1))); (case side2 => exact (Kd.R_reads' HO441.out).2.1); (case side3 => refine (Kd.R_reads' (e := 132) (base := w.heap.size) (ok := fun k_ => (((True ∧ some k_ ≠ (.slice Ao20 t415.length co20 : Value).ownBlock) ∧ some k_ ≠ (.slice Ao32 t431.length co32 : Value).ownBlock) ∧ some k_ ≠ (.slice Ao39 t439.length co39 : Value).ownBlock)) (n := t422.length) (c := co25) ?_).2.2; exact (zRf HO424 BK445 (fun _ h_ => h_.1))); (case side4 => exact (Kd.R_reads' HO424.out).2.1); rintro e w57 ⟨rfl, hb⟩; refine ⟨_, rfl, ?_⟩; replace HO417 := zA (Kd.R_below (zRf HO417 BK445 (fun _ h_ => h_.1)) hb); replace HO424 := zA (Kd.R_below (zRf HO424 BK445 (fun _ h_ => h_.1)) hb); replace HO433 := zA (Kd.R_below (zRf HO433 BK445 (fun _ h_ => h_.1)) hb); replace HO441 := zA (Kd.R_below (zRf HO441 BK445 (fun _ h_ => h_.1)) hb); replace BK411 := zA (blk_below (g := gb411) (o := .cells #[.int .i64 a0_0, .int .i64 a0_1, .slice A0_2 l0_2.length c0_2, .int .i64 a0_3, .int .i64 a0_4] 91 (0, 0)) (zpf BK411 NB411_445) hb); replace BK428 := zA (blk_below (g := gb428) (o := .cells #[.int .i64 t420, .int .i64 t421, .slice Ao25 t422.length co25, .int .i64 t425, .int .i64 t426] 68 (0, 0)) (zpf BK428 NB428_445) hb); replace BK436 := zA (blk_below (g := gb436) (o := .cells #[.int .i64 t429, .int .i64 t430, .slice Ao32 t431.length co32, .int .i64 t434, .int .i64 t435] 68 (0, 0)) (zpf BK436 NB436_445) hb); replace BK445 := zA (blk_below (g := gb445) (o := .cells #[.int .i64 t437, .int .i64 t438, .slice Ao39 t439.length co39, .int .i64 t442, .int .i64 t443] 68 (0, 0)) (zpb BK445) hb); replace HB := zA (below_step (by repeat (first | (with_reducible first | exact HB.out | apply below_alloc | apply pw_below_drewN | apply below_drew1 | refine below_set ?_ GE411.out | refine below_set ?_ GE428.out | refine below_set ?_ GE436.out | refine below_set ?_ GE445.out) | exact HB.out)) hb); (try clear hb); (try clear hb2); (try clear hk); (try clear hi)))
  go_meet
  case rel => exact ⟨_, (true), zi, H', ⟨by first | omega | exact Nat.le_refl _⟩, ⟨by (with_reducible repeat (first | apply Kd.R_alloc | apply Kd.R_drewN | apply Kd.R_drew)); exact Kd.R_mono HO424.out (fun _ hk => ⟨hk.1.2, hk.2⟩)⟩, ⟨by (with_reducible repeat (first | apply Kd.R_alloc | apply Kd.R_drewN | apply Kd.R_drew)); exact Kd.R_mono HO433.out (fun _ hk => ⟨hk.1.2, hk.2⟩)⟩, ⟨by (with_reducible repeat (first | apply Kd.R_alloc | apply Kd.R_drewN | apply Kd.R_drew)); exact Kd.R_mono HO441.out (fun _ hk => ⟨hk.1.2, hk.2⟩)⟩, ⟨zh BK411⟩, ⟨zh BK428⟩, ⟨zh BK436⟩, ⟨zh BK445⟩, ⟨by repeat (first | (with_reducible first | exact HB.out | apply below_alloc | apply pw_below_drewN | apply below_drew1 | refine below_set ?_ GE411.out | refine below_set ?_ GE428.out | refine below_set ?_ GE436.out | refine below_set ?_ GE445.out) | exact HB.out)⟩⟩
 case rest =>
  clear HC14
  try clear c1
  try clear c2
  try clear p2
  try clear c3
  try clear c4
  try clear c5
  try clear c6
  try clear c6b0
  try clear c7
  try clear c13
  try clear c23
  try clear c29
  try clear c30
  try clear c35
  try clear c36
  try clear c37
  try clear c41
  try clear c42
  try clear c43
  try clear c44
  try clear c46
  try clear c47
  try clear c50
  try clear c51
  try clear c52
  try clear c54
  try clear c55
  try clear hcz16_0 hcz16_1 hcz16_2 hcz16_3 hcz16_4
  try clear hcz18_0 hcz18_1 hcz18_2 hcz18_3 hcz18_4
  try clear hcz24_0 hcz24_1 hcz24_2 hcz24_3 hcz24_4
  try clear hcz26_0 hcz26_1 hcz26_2 hcz26_3 hcz26_4
  try clear hcz31_0 hcz31_1 hcz31_2 hcz31_3 hcz31_4
  try clear hcz38_0 hcz38_1 hcz38_2 hcz38_3 hcz38_4
  try clear hcz45_0 hcz45_1 hcz45_2 hcz45_3 hcz45_4
  try clear hcz48_0 hcz48_1 hcz48_2 hcz48_3 hcz48_4
  try clear hcz53_0 hcz53_1 hcz53_2 hcz53_3 hcz53_4
  try clear hcz56_0 hcz56_1 hcz56_2 hcz56_3 hcz56_4
  try clear hcz8_0 hcz8_1 hcz8_2 hcz8_3 hcz8_4
  try clear hfz16_0 hfz16_1 hfz16_2 hfz16_3 hfz16_4
  try clear hfz18_0 hfz18_1 hfz18_2 hfz18_3 hfz18_4
  try clear hfz24_0 hfz24_1 hfz24_2 hfz24_3 hfz24_4
  try clear hfz26_0 hfz26_1 hfz26_2 hfz26_3 hfz26_4
  try clear hfz31_0 hfz31_1 hfz31_2 hfz31_3 hfz31_4
  try clear hfz38_0 hfz38_1 hfz38_2 hfz38_3 hfz38_4
  try clear hfz45_0 hfz45_1 hfz45_2 hfz45_3 hfz45_4
  try clear hfz48_0 hfz48_1 hfz48_2 hfz48_3 hfz48_4
  try clear hfz53_0 hfz53_1 hfz53_2 hfz53_3 hfz53_4
  try clear hfz56_0 hfz56_1 hfz56_2 hfz56_3 hfz56_4
  try clear hfz8_0 hfz8_1 hfz8_2 hfz8_3 hfz8_4
  obtain ⟨kq, x52_13, rfl, HA, HJ13, HO_429002, HO_437002, HO_446002, BK411, BK428, BK436, BK445, HB⟩ := hcut
  cases kq with
  | zero => exact absurd HA.out (by simp [laws_FnExactFlyRest.j0])
  | succ kj13 =>
   have H := HA.out
   clear HA
   simp only [laws_FnExactFlyRest.j0] at H
   by_cases c58 : x52_13 = true
   ·subst c58
    have H1 : (some false) = some r := by rw [if_pos rfl] at H; exact H
    clear H
    have H := H1
    clear H1
    obtain rfl := Option.some.inj H
    go_wp2
    go_ret
    exact ⟨ze, by repeat (first | (with_reducible first | exact HB.out | apply below_alloc | apply pw_below_drewN | apply below_drew1 | refine below_set ?_ GE411.out | refine below_set ?_ GE428.out | refine below_set ?_ GE436.out | refine below_set ?_ GE445.out) | exact HB.out)⟩
   replace c58 := Bool.eq_false_iff.mpr c58
   subst c58
   have H1 : ((laws_toFlyPath.f kj13 a0_0 a0_1 l0_2 a0_3 a0_4).bind fun bt447 => ((laws_eqFlyPath.f kj13 t429 t430 t431 t434 t435 bt447.1 bt447.2.1 bt447.2.2.1 bt447.2.2.2.1 bt447.2.2.2.2).bind fun t454 => (if t454 = true then ((laws_markFlyPath.f kj13 t429 t430 t431 t434 t435 1).bind fun bt455 => (if bt455.1 < 0 then (laws_FnExactFlyRest.j1 kj13 a1 a2 a3 t427 true a0_0 a0_1 l0_2 a0_3 a0_4 t420 t421 t422 t425 t426 t437 t438 t439 t442 t443) else ((laws_eqFlyPath.f kj13 t437 t438 t439 t442 t443 t420 t421 t422 t425 t426).bind fun t457 => (if t457 = true then (laws_FnExactFlyRest.j1 kj13 a1 a2 a3 t427 (t444 != t427) a0_0 a0_1 l0_2 a0_3 a0_4 t420 t421 t422 t425 t426 t437 t438 t439 t442 t443) else (laws_FnExactFlyRest.j1 kj13 a1 a2 a3 t427 true a0_0 a0_1 l0_2 a0_3 a0_4 t420 t421 t422 t425 t426 t437 t438 t439 t442 t443))))) else (some false)))) = some r := by rw [if_neg (show ¬ (false = true) by decide)] at H; exact H
   clear H
   have H := H1
   clear H1
   replace H := Option.bind_eq_some_iff.mp H
   obtain ⟨⟨t447, t448, t449, t452, t453⟩, A590, H⟩ := H
   replace H : ((laws_eqFlyPath.f kj13 t429 t430 t431 t434 t435 t447 t448 t449 t452 t453).bind fun t454 => (if t454 = true then ((laws_markFlyPath.f kj13 t429 t430 t431 t434 t435 1).bind fun bt455 => (if bt455.1 < 0 then (laws_FnExactFlyRest.j1 kj13 a1 a2 a3 t427 true a0_0 a0_1 l0_2 a0_3 a0_4 t420 t421 t422 t425 t426 t437 t438 t439 t442 t443) else ((laws_eqFlyPath.f kj13 t437 t438 t439 t442 t443 t420 t421 t422 t425 t426).bind fun t457 => (if t457 = true then (laws_FnExactFlyRest.j1 kj13 a1 a2 a3 t427 (t444 != t427) a0_0 a0_1 l0_2 a0_3 a0_4 t420 t421 t422 t425 t426 t437 t438 t439 t442 t443) else (laws_FnExactFlyRest.j1 kj13 a1 a2 a3 t427 true a0_0 a0_1 l0_2 a0_3 a0_4 t420 t421 t422 t425 t426 t437 t438 t439 t442 t443))))) else (some false))) = some r := H
   have A59 := zA A590
   clear A590
   replace H := zbd H; obtain ⟨t454, A60, H⟩ := H
   by_cases c61 : t454 = true
   rotate_left
   ·replace c61 := Bool.eq_false_iff.mpr c61
    subst c61
    have H1 : (some false) = some r := by rw [if_neg (show ¬ (false = true) by decide)] at H; exact H
    clear H
    have H := H1
    clear H1
    obtain rfl := Option.some.inj H
    try go_wp2
    replace HO_429002 := zA (Kd.R_drew HO_429002.out)
    replace HO_437002 := zA (Kd.R_drew HO_437002.out)
    replace HO_446002 := zA (Kd.R_drew HO_446002.out)
    replace BK411 := zA (blk_drew BK411.out)
    replace BK428 := zA (blk_drew BK428.out)
    replace BK436 := zA (blk_drew BK436.out)
    replace BK445 := zA (blk_drew BK445.out)
    replace HB := zA (below_drew1 HB.out)
    refine start_ (n := 5) (S := fun w' => w'.cell? ⟨gb436, 0, none⟩ = some (.int .i64 t429) ∧ w'.cell? ⟨gb436, 1, none⟩ = some (.int .i64 t430) ∧ w'.cell? ⟨gb436, 2, none⟩ = some (.slice Ao32 t431.length co32) ∧ w'.cell? ⟨gb436, 3, none⟩ = some (.int .i64 t434) ∧ w'.cell? ⟨gb436, 4, none⟩ = some (.int .i64 t435) ∧ w'.cell? ⟨gb411, 0, none⟩ = some (.int .i64 a0_0) ∧ w'.cell? ⟨gb411, 1, none⟩ = some (.int .i64 a0_1) ∧ w'.cell? ⟨gb411, 2, none⟩ = some (.slice A0_2 l0_2.length c0_2) ∧ w'.cell? ⟨gb411, 3, none⟩ = some (.int .i64 a0_3) ∧ w'.cell? ⟨gb411, 4, none⟩ = some (.int .i64 a0_4)) (ds := []) #[F,F,F,F,F] (by kernel_rfl) rfl rfl ⟨zc0 BK436, zc1 BK436, zc2 BK436, zc3 BK436, zc4 BK436, zc0 BK411, zc1 BK411, zc2 BK411, zc3 BK411, zc4 BK411⟩ (fun hHeld => ?_)
    generalize wc.drew = w178 at HO_429002 HO_437002 HO_446002 BK411 BK428 BK436 BK445 HB hHeld ⊢
    refine take_ (i := 0) (N := some 53) (v := ?_) (a' := ?_) #[T,F,F,F,F] rfl rfl (by kernel_rfl) (fun _ _ _ h => h) (Or.inl ⟨by rfl, ?_⟩) hHeld ?_ ?_; rotate_left; exact zt10; rotate_left; exact zput
    refine take_ (i := 1) (N := some 54) (v := ?_) (a' := ?_) #[T,T,F,F,F] rfl rfl (by kernel_rfl) (fun _ _ _ h => h) (Or.inl ⟨by rfl, ?_⟩) hHeld ?_ ?_; rotate_left; exact zt10; rotate_left; exact zput
    refine one_ (i := 2) (N := some 55) #[T,T,T,F,F] rfl rfl (by kernel_rfl) (by decide) (fun K hK => ?_)
    refine zgo Try.func64 #[.agg #[.int .i64 a0_0, .int .i64 a0_1, .slice A0_2 l0_2.length c0_2, .int .i64 a0_3, .int .i64 a0_4]] ?_
    with_reducible refine (laws_toFlyPath.calls kj13 a0_0 a0_1 _ _ l0_2 a0_3 a0_4 t447 t448 t449 t452 t453 _ ?side1 ?side2 A59.out).mono ?_
    (case side1 => exact zC HR0_2 HB)
    (case side2 => exact HC0_2.out)
    rintro e w179 ⟨v450, rfl, ho0, hb⟩
    refine ⟨_, rfl, ?_⟩
    have HO451 := zA (Kd.R_lower (Kd.R_new' (Kd.R_new' (Kd.R_new' ho0 (Kd.R_lt (zr HO_429002))) (Kd.R_lt (zr HO_437002))) (Kd.R_lt (zr HO_446002))) (below_size (by repeat (first | (with_reducible first | exact HB.out | apply below_alloc | apply pw_below_drewN | apply below_drew1 | refine below_set ?_ GE411.out | refine below_set ?_ GE428.out | refine below_set ?_ GE436.out | refine below_set ?_ GE445.out) | exact HB.out))))
    replace HO_429002 := zA (Kd.R_elder' (zr HO_429002) (Kd.R_base ho0) hb)
    replace HO_437002 := zA (Kd.R_elder' (zr HO_437002) (Kd.R_base ho0) hb)
    replace HO_446002 := zA (Kd.R_elder' (zr HO_446002) (Kd.R_base ho0) hb)
    replace BK411 := zb BK411 hb
    replace BK428 := zb BK428 hb
    replace BK436 := zb BK436 hb
    replace BK445 := zb BK445 hb
    replace HB := zA (below_step (by repeat (first | (with_reducible first | exact HB.out | apply below_alloc | apply pw_below_drewN | apply below_drew1 | refine below_set ?_ GE411.out | refine below_set ?_ GE428.out | refine below_set ?_ GE436.out | refine below_set ?_ GE445.out) | exact HB.out)) hb)
    (try clear hb)
    (try clear hb2)
    (try clear hk)
    (try clear hi)
    (try clear ho0)
    obtain ⟨Ao180, co180, eo180⟩ := Kd.R_slice HO451.out
    (first | subst eo180 | (injection eo180 with f1_ f2_ f3_; have f4_ := f1_.symm; have f5_ := f3_.symm; clear f1_ f2_ f3_; subst f4_; subst f5_))
    refine hK.out _ _ ⟨zc0 BK436, zc1 BK436, zc2 BK436, zc3 BK436, zc4 BK436, zc0 BK411, zc1 BK411, zc2 BK411, zc3 BK411, zc4 BK411⟩ (fun hHeld => ?_)
    clear hK K
    refine zN ?_
    refine one_ (i := 3) (N := some 56) #[T,T,T,T,F] rfl rfl (by kernel_rfl) (by decide) (fun K hK => ?_)
    refine zgo Try.func46 #[.agg #[.int .i64 t429, .int .i64 t430, .slice Ao32 t431.length co32, .int .i64 t434, .int .i64 t435], .agg #[.int .i64 t447, .int .i64 t448, .slice Ao180 t449.length co180, .int .i64 t452, .int .i64 t453]] ?_
    with_reducible refine (laws_eqFlyPath.calls kj13 t429 t430 _ _ t431 t434 t435 t447 t448 _ _ t449 t452 t453 false _ ?side1 ?side2 ?side3 ?side4 A60.out).mono ?_
    (case side1 => repeat (first | exact (Kd.R_reads' HO_437002.out).2.2 | (with_reducible refine Kd.C_alloc ?_ _) | (with_reducible refine Kd.C_drewN ?_ _) | (with_reducible refine Kd.C_drew ?_)))
    (case side2 => exact (Kd.R_reads' HO_437002.out).2.1)
    (case side3 => repeat (first | exact (Kd.R_reads' HO451.out).2.2 | (with_reducible refine Kd.C_alloc ?_ _) | (with_reducible refine Kd.C_drewN ?_ _) | (with_reducible refine Kd.C_drew ?_)))
    (case side4 => exact (Kd.R_reads' HO451.out).2.1)
    rintro e w181 ⟨rfl, hb⟩
    refine ⟨_, rfl, ?_⟩
    replace HO_429002 := zA (Kd.R_below (zr HO_429002) hb)
    replace HO_437002 := zA (Kd.R_below (zr HO_437002) hb)
    replace HO_446002 := zA (Kd.R_below (zr HO_446002) hb)
    replace HO451 := zA (Kd.R_below (zr HO451) hb)
    replace BK411 := zb BK411 hb
    replace BK428 := zb BK428 hb
    replace BK436 := zb BK436 hb
    replace BK445 := zb BK445 hb
    replace HB := zA (below_step (by repeat (first | (with_reducible first | exact HB.out | apply below_alloc | apply pw_below_drewN | apply below_drew1 | refine below_set ?_ GE411.out | refine below_set ?_ GE428.out | refine below_set ?_ GE436.out | refine below_set ?_ GE445.out) | exact HB.out)) hb)
    (try clear hb)
    (try clear hb2)
    (try clear hk)
    (try clear hi)
    refine hK.out _ _ ⟨zc0 BK436, zc1 BK436, zc2 BK436, zc3 BK436, zc4 BK436, zc0 BK411, zc1 BK411, zc2 BK411, zc3 BK411, zc4 BK411⟩ (fun hHeld => ?_)
    clear hK K
    refine zN ?_
    refine zp 4 ?_
    refine done_ (by kernel_rfl) ?_
    try go_wp2
    go_ret
    exact ⟨ze, by repeat (first | (with_reducible first | exact HB.out | apply below_alloc | apply pw_below_drewN | apply below_drew1 | refine below_set ?_ GE411.out | refine below_set ?_ GE428.out | refine below_set ?_ GE436.out | refine below_set ?_ GE445.out) | exact HB.out)⟩
   subst c61
   have H1 : ((laws_markFlyPath.f kj13 t429 t430 t431 t434 t435 1).bind fun bt455 => (if bt455.1 < 0 then (laws_FnExactFlyRest.j1 kj13 a1 a2 a3 t427 true a0_0 a0_1 l0_2 a0_3 a0_4 t420 t421 t422 t425 t426 t437 t438 t439 t442 t443) else ((laws_eqFlyPath.f kj13 t437 t438 t439 t442 t443 t420 t421 t422 t425 t426).bind fun t457 => (if t457 = true then (laws_FnExactFlyRest.j1 kj13 a1 a2 a3 t427 (t444 != t427) a0_0 a0_1 l0_2 a0_3 a0_4 t420 t421 t422 t425 t426 t437 t438 t439 t442 t443) else (laws_FnExactFlyRest.j1 kj13 a1 a2 a3 t427 true a0_0 a0_1 l0_2 a0_3 a0_4 t420 t421 t422 t425 t426 t437 t438 t439 t442 t443))))) = some r := by rw [if_pos rfl] at H; exact H
   clear H
   have H := H1
   clear H1
   replace H := Option.bind_eq_some_iff.mp H
   obtain ⟨⟨t455, t456⟩, A620, H⟩ := H
   replace H : (if t455 < 0 then (laws_FnExactFlyRest.j1 kj13 a1 a2 a3 t427 true a0_0 a0_1 l0_2 a0_3 a0_4 t420 t421 t422 t425 t426 t437 t438 t439 t442 t443) else ((laws_eqFlyPath.f kj13 t437 t438 t439 t442 t443 t420 t421 t422 t425 t426).bind fun t457 => (if t457 = true then (laws_FnExactFlyRest.j1 kj13 a1 a2 a3 t427 (t444 != t427) a0_0 a0_1 l0_2 a0_3 a0_4 t420 t421 t422 t425 t426 t437 t438 t439 t442 t443) else (laws_FnExactFlyRest.j1 kj13 a1 a2 a3 t427 true a0_0 a0_1 l0_2 a0_3 a0_4 t420 t421 t422 t425 t426 t437 t438 t439 t442 t443)))) = some r := H
   have A62 := zA A620
   clear A620
   have HC63 := zA H
   clear H
   try go_wp2
   replace HO_429002 := zA (Kd.R_drew HO_429002.out)
   replace HO_437002 := zA (Kd.R_drew HO_437002.out)
   replace HO_446002 := zA (Kd.R_drew HO_446002.out)
   replace BK411 := zA (blk_drew BK411.out)
   replace BK428 := zA (blk_drew BK428.out)
   replace BK436 := zA (blk_drew BK436.out)
   replace BK445 := zA (blk_drew BK445.out)
   replace HB := zA (below_drew1 HB.out)
   refine start_ (n := 5) (S := fun w' => w'.cell? ⟨gb436, 0, none⟩ = some (.int .i64 t429) ∧ w'.cell? ⟨gb436, 1, none⟩ = some (.int .i64 t430) ∧ w'.cell? ⟨gb436, 2, none⟩ = some (.slice Ao32 t431.length co32) ∧ w'.cell? ⟨gb436, 3, none⟩ = some (.int .i64 t434) ∧ w'.cell? ⟨gb436, 4, none⟩ = some (.int .i64 t435) ∧ w'.cell? ⟨gb411, 0, none⟩ = some (.int .i64 a0_0) ∧ w'.cell? ⟨gb411, 1, none⟩ = some (.int .i64 a0_1) ∧ w'.cell? ⟨gb411, 2, none⟩ = some (.slice A0_2 l0_2.length c0_2) ∧ w'.cell? ⟨gb411, 3, none⟩ = some (.int .i64 a0_3) ∧ w'.cell? ⟨gb411, 4, none⟩ = some (.int .i64 a0_4)) (ds := []) #[F,F,F,F,F] (by kernel_rfl) rfl rfl ⟨zc0 BK436, zc1 BK436, zc2 BK436, zc3 BK436, zc4 BK436, zc0 BK411, zc1 BK411, zc2 BK411, zc3 BK411, zc4 BK411⟩ (fun hHeld => ?_)
   generalize wc.drew = w64 at HO_429002 HO_437002 HO_446002 BK411 BK428 BK436 BK445 HB hHeld ⊢
   refine take_ (i := 0) (N := some 53) (v := ?_) (a' := ?_) #[T,F,F,F,F] rfl rfl (by kernel_rfl) (fun _ _ _ h => h) (Or.inl ⟨by rfl, ?_⟩) hHeld ?_ ?_; rotate_left; exact zt10; rotate_left; exact zput
   refine take_ (i := 1) (N := some 54) (v := ?_) (a' := ?_) #[T,T,F,F,F] rfl rfl (by kernel_rfl) (fun _ _ _ h => h) (Or.inl ⟨by rfl, ?_⟩) hHeld ?_ ?_; rotate_left; exact zt10; rotate_left; exact zput
   refine one_ (i := 2) (N := some 55) #[T,T,T,F,F] rfl rfl (by kernel_rfl) (by decide) (fun K hK => ?_)
   refine zgo Try.func64 #[.agg #[.int .i64 a0_0, .int .i64 a0_1, .slice A0_2 l0_2.length c0_2, .int .i64 a0_3, .int .i64 a0_4]] ?_
   with_reducible refine (laws_toFlyPath.calls kj13 a0_0 a0_1 _ _ l0_2 a0_3 a0_4 t447 t448 t449 t452 t453 _ ?side1 ?side2 A59.out).mono ?_
   (case side1 => exact zC HR0_2 HB)
   (case side2 => exact HC0_2.out)
   rintro e w65 ⟨v450, rfl, ho0, hb⟩
   refine ⟨_, rfl, ?_⟩
   have HO451 := zA (Kd.R_lower (Kd.R_new' (Kd.R_new' (Kd.R_new' ho0 (Kd.R_lt (zr HO_429002))) (Kd.R_lt (zr HO_437002))) (Kd.R_lt (zr HO_446002))) (below_size (by repeat (first | (with_reducible first | exact HB.out | apply below_alloc | apply pw_below_drewN | apply below_drew1 | refine below_set ?_ GE411.out | refine below_set ?_ GE428.out | refine below_set ?_ GE436.out | refine below_set ?_ GE445.out) | exact HB.out))))
   replace HO_429002 := zA (Kd.R_elder' (zr HO_429002) (Kd.R_base ho0) hb)
   replace HO_437002 := zA (Kd.R_elder' (zr HO_437002) (Kd.R_base ho0) hb)
   replace HO_446002 := zA (Kd.R_elder' (zr HO_446002) (Kd.R_base ho0) hb)
   replace BK411 := zb BK411 hb
   replace BK428 := zb BK428 hb
   replace BK436 := zb BK436 hb
   replace BK445 := zb BK445 hb
   replace HB := zA (below_step (by repeat (first | (with_reducible first | exact HB.out | apply below_alloc | apply pw_below_drewN | apply below_drew1 | refine below_set ?_ GE411.out | refine below_set ?_ GE428.out | refine below_set ?_ GE436.out | refine below_set ?_ GE445.out) | exact HB.out)) hb)
   (try clear hb)
   (try clear hb2)
   (try clear hk)
   (try clear hi)
   (try clear ho0)
   obtain ⟨Ao66, co66, eo66⟩ := Kd.R_slice HO451.out
   (first | subst eo66 | (injection eo66 with f1_ f2_ f3_; have f4_ := f1_.symm; have f5_ := f3_.symm; clear f1_ f2_ f3_; subst f4_; subst f5_))
   refine hK.out _ _ ⟨zc0 BK436, zc1 BK436, zc2 BK436, zc3 BK436, zc4 BK436, zc0 BK411, zc1 BK411, zc2 BK411, zc3 BK411, zc4 BK411⟩ (fun hHeld => ?_)
   clear hK K
   refine zN ?_
   refine one_ (i := 3) (N := some 56) #[T,T,T,T,F] rfl rfl (by kernel_rfl) (by decide) (fun K hK => ?_)
   refine zgo Try.func46 #[.agg #[.int .i64 t429, .int .i64 t430, .slice Ao32 t431.length co32, .int .i64 t434, .int .i64 t435], .agg #[.int .i64 t447, .int .i64 t448, .slice Ao66 t449.length co66, .int .i64 t452, .int .i64 t453]] ?_
   with_reducible refine (laws_eqFlyPath.calls kj13 t429 t430 _ _ t431 t434 t435 t447 t448 _ _ t449 t452 t453 true _ ?side1 ?side2 ?side3 ?side4 A60.out).mono ?_
   (case side1 => repeat (first | exact (Kd.R_reads' HO_437002.out).2.2 | (with_reducible refine Kd.C_alloc ?_ _) | (with_reducible refine Kd.C_drewN ?_ _) | (with_reducible refine Kd.C_drew ?_)))
   (case side2 => exact (Kd.R_reads' HO_437002.out).2.1)
   (case side3 => repeat (first | exact (Kd.R_reads' HO451.out).2.2 | (with_reducible refine Kd.C_alloc ?_ _) | (with_reducible refine Kd.C_drewN ?_ _) | (with_reducible refine Kd.C_drew ?_)))
   (case side4 => exact (Kd.R_reads' HO451.out).2.1)
   rintro e w67 ⟨rfl, hb⟩
   refine ⟨_, rfl, ?_⟩
   replace HO_429002 := zA (Kd.R_below (zr HO_429002) hb)
   replace HO_437002 := zA (Kd.R_below (zr HO_437002) hb)
   replace HO_446002 := zA (Kd.R_below (zr HO_446002) hb)
   replace HO451 := zA (Kd.R_below (zr HO451) hb)
   replace BK411 := zb BK411 hb
   replace BK428 := zb BK428 hb
   replace BK436 := zb BK436 hb
   replace BK445 := zb BK445 hb
   replace HB := zA (below_step (by repeat (first | (with_reducible first | exact HB.out | apply below_alloc | apply pw_below_drewN | apply below_drew1 | refine below_set ?_ GE411.out | refine below_set ?_ GE428.out | refine below_set ?_ GE436.out | refine below_set ?_ GE445.out) | exact HB.out)) hb)
   (try clear hb)
   (try clear hb2)
   (try clear hk)
   (try clear hi)
   refine hK.out _ _ ⟨zc0 BK436, zc1 BK436, zc2 BK436, zc3 BK436, zc4 BK436, zc0 BK411, zc1 BK411, zc2 BK411, zc3 BK411, zc4 BK411⟩ (fun hHeld => ?_)
   clear hK K
   refine zN ?_
   refine zp 4 ?_
   refine done_ (by kernel_rfl) ?_
   have hnb68 := NB436_411.out
   have hnc68 := NB411_436.out
   have hnb69 := NB436_428.out
   have hnc69 := NB428_436.out
   have hnb70 := NB436_445.out
   have hnc70 := NB445_436.out
   obtain ⟨hcz71_0, hcz71_1, hcz71_2, hcz71_3, hcz71_4⟩ := zd5 BK436
   obtain ⟨hfz71_0, hfz71_1, hfz71_2, hfz71_3, hfz71_4⟩ := zn5 BK436
   go_upto_region 14 with (first | ((with_reducible refine gate_callee (f := 47) rfl ?_); refine zgl (N := some 60) Try.func47 #[.agg #[.int .i64 t429, .int .i64 t430, .slice Ao32 t431.length co32, .int .i64 t434, .int .i64 t435], .int .i64 1] ?_; (with_reducible refine (laws_markFlyPath.calls kj13 t429 t430 (fun k_ => some k_ = (.slice Ao32 t431.length co32 : Value).ownBlock) (.slice Ao32 t431.length co32) t431 t434 t435 1 t455 t456 w _ ?side1 ?side2 A62.out).mono ?_); (case side1 => repeat (first | (with_reducible first | exact HB.out | apply below_alloc | apply pw_below_drewN | apply below_drew1 | refine below_set ?_ GE411.out | refine below_set ?_ GE428.out | refine below_set ?_ GE436.out | refine below_set ?_ GE445.out) | exact HB.out)); (case side2 => exact Kd.R_tight rfl HO_437002.out); rintro e w72 ⟨rfl, hy0, hb, hkp⟩; refine ⟨_, rfl, ?_⟩; replace HO_429002 := zA (Kd.R_mono (ok' := fun k_ => some k_ ≠ (.slice Ao32 t431.length co32 : Value).ownBlock ∧ some k_ ≠ (.slice Ao39 t439.length co39 : Value).ownBlock ∧ some k_ ≠ (.slice Ao66 t449.length co66 : Value).ownBlock) (Kd.R_keptB (HO_429002.out) hkp (fun k_ hk_ hs_ => (hk_.1.1) hs_)) (fun k_ hk_ => ⟨hk_.1.1.1, hk_.1.1.2, hk_.1.2⟩)); replace HO_446002 := zA (Kd.R_mono (ok' := fun k_ => some k_ ≠ (.slice Ao25 t422.length co25 : Value).ownBlock ∧ some k_ ≠ (.slice Ao32 t431.length co32 : Value).ownBlock ∧ some k_ ≠ (.slice Ao66 t449.length co66 : Value).ownBlock) (Kd.R_keptB (HO_446002.out) hkp (fun k_ hk_ hs_ => (hk_.1.2) hs_)) (fun k_ hk_ => ⟨hk_.1.1.1, hk_.1.1.2, hk_.1.2⟩)); replace BK411 := zA (blk_kept (zh BK411) hkp (fun hs_ => (fun e_ => (Kd.R_ne HO_437002.out BK411.out (by decide)) e_) hs_)); replace BK428 := zA (blk_kept (zh BK428) hkp (fun hs_ => (fun e_ => (Kd.R_ne HO_437002.out BK428.out (by decide)) e_) hs_)); replace BK436 := zA (blk_kept (zh BK436) hkp (fun hs_ => (fun e_ => (Kd.R_ne HO_437002.out BK436.out (by decide)) e_) hs_)); replace BK445 := zA (blk_kept (zh BK445) hkp (fun hs_ => (fun e_ => (Kd.R_ne HO_437002.out BK445.out (by decide)) e_) hs_)); replace HO_437002 := zA (Kd.R_reok rfl hy0 (fun k_ e_ => HO_437002.out.1 k_ e_)); replace HO451 := zA (Kd.R_mono (ok' := fun k_ => some k_ ≠ (.slice Ao25 t422.length co25 : Value).ownBlock ∧ some k_ ≠ (.slice Ao32 t431.length co32 : Value).ownBlock ∧ some k_ ≠ (.slice Ao39 t439.length co39 : Value).ownBlock) (Kd.R_keptB (HO451.out) hkp (fun k_ hk_ hs_ => (hk_.1.2) hs_)) (fun k_ hk_ => ⟨hk_.1.1.1.2, hk_.1.1.2, hk_.1.2⟩)); replace HB := zA (hb); (try clear hb); (try clear hkp); (try clear hy0)))
   (try simp only [Act.put, List.setIfInBounds_toArray, List.set_cons_zero, List.set_cons_succ])
   go_cut [73] (fun v73 wc => ∃ (kq : Nat) (x73_62 : Bool), v73 = .bool x73_62 ∧ Aside0 (laws_FnExactFlyRest.j1 kq a1 a2 a3 t427 x73_62 a0_0 a0_1 l0_2 a0_3 a0_4 t420 t421 t422 t425 t426 t437 t438 t439 t442 t443 = some r) ∧ Aside0 (kq ≤ kj13) ∧ Aside0 (Kd.R k132 132 wc w.heap.size (fun k_ => some k_ ≠ ((.slice Ao32 t431.length co32) : Value).ownBlock ∧ some k_ ≠ ((.slice Ao39 t439.length co39) : Value).ownBlock) (.slice Ao25 t422.length co25) t422) ∧ Aside0 (Kd.R k132 132 wc w.heap.size (fun k_ => some k_ ≠ ((.slice Ao25 t422.length co25) : Value).ownBlock ∧ some k_ ≠ ((.slice Ao39 t439.length co39) : Value).ownBlock) (.slice Ao32 t431.length co32) t456) ∧ Aside0 (Kd.R k132 132 wc w.heap.size (fun k_ => some k_ ≠ ((.slice Ao25 t422.length co25) : Value).ownBlock ∧ some k_ ≠ ((.slice Ao32 t431.length co32) : Value).ownBlock) (.slice Ao39 t439.length co39) t439) ∧ Aside0 (wc.heap[gb411]? = some (.cells #[.int .i64 a0_0, .int .i64 a0_1, (.slice A0_2 l0_2.length c0_2), .int .i64 a0_3, .int .i64 a0_4] 91 (0, 0))) ∧ Aside0 (wc.heap[gb428]? = some (.cells #[.int .i64 t420, .int .i64 t421, (.slice Ao25 t422.length co25), .int .i64 t425, .int .i64 t426] 68 (0, 0))) ∧ Aside0 (wc.heap[gb436]? = some (.cells #[.int .i64 t429, .int .i64 t430, (.slice Ao32 t431.length co32), .int .i64 t434, .int .i64 t435] 68 (0, 0))) ∧ Aside0 (wc.heap[gb445]? = some (.cells #[.int .i64 t437, .int .i64 t438, (.slice Ao39 t439.length co39), .int .i64 t442, .int .i64 t443] 68 (0, 0))) ∧ Aside0 (Below w.heap.size w wc))
   case first =>
    have H := HC63.out
    clear HC63
    by_cases c73 : t455 < 0
    ·rw [if_pos c73] at H
     have c73b0 : decide (t455 < 0) = true := decide_eq_true c73
     clear c73
     (first | rw [c73b0] | (simp only [i64_w, i32_w]; rw [c73b0]) | skip)
     have H' := zA H
     clear H
     go_wp2
     go_meet
     case rel => exact ⟨_, (true), zi, H', ⟨by have := HJ13.out; first | omega | exact Nat.le_refl _⟩, ⟨by (with_reducible repeat (first | apply Kd.R_alloc | apply Kd.R_drewN | apply Kd.R_drew)); exact Kd.R_mono HO_429002.out (fun _ hk => ⟨hk.1, hk.2.1⟩)⟩, ⟨by (with_reducible repeat (first | apply Kd.R_alloc | apply Kd.R_drewN | apply Kd.R_drew)); exact Kd.R_mono HO_437002.out (fun _ hk => ⟨hk.1.1, hk.1.2⟩)⟩, ⟨by (with_reducible repeat (first | apply Kd.R_alloc | apply Kd.R_drewN | apply Kd.R_drew)); exact Kd.R_mono HO_446002.out (fun _ hk => ⟨hk.1, hk.2.1⟩)⟩, ⟨zh BK411⟩, ⟨zh BK428⟩, ⟨zh BK436⟩, ⟨zh BK445⟩, ⟨by repeat (first | (with_reducible first | exact HB.out | apply below_alloc | apply pw_below_drewN | apply below_drew1 | refine below_set ?_ GE411.out | refine below_set ?_ GE428.out | refine below_set ?_ GE436.out | refine below_set ?_ GE445.out) | exact HB.out)⟩⟩
    rw [if_neg c73] at H
    have c73b0 : decide (t455 < 0) = false := decide_eq_false c73
    clear c73
    (first | rw [c73b0] | (simp only [i64_w, i32_w]; rw [c73b0]) | skip)
    replace H := zbd H; obtain ⟨t457, A74, H⟩ := H
    by_cases c75 : t457 = true
    ·subst c75
     have H1 : (laws_FnExactFlyRest.j1 kj13 a1 a2 a3 t427 (t444 != t427) a0_0 a0_1 l0_2 a0_3 a0_4 t420 t421 t422 t425 t426 t437 t438 t439 t442 t443) = some r := by rw [if_pos rfl] at H; exact H
     clear H
     have H := H1
     clear H1
     have H' := zA H
     clear H
     have hnb76 := NB445_411.out
     have hnc76 := NB411_445.out
     have hnb77 := NB445_428.out
     have hnc77 := NB428_445.out
     have hnb78 := NB445_436.out
     have hnc78 := NB436_445.out
     obtain ⟨hcz79_0, hcz79_1, hcz79_2, hcz79_3, hcz79_4⟩ := zd5 BK445
     obtain ⟨hfz79_0, hfz79_1, hfz79_2, hfz79_3, hfz79_4⟩ := zn5 BK445
     have hnb80 := NB428_411.out
     have hnc80 := NB411_428.out
     have hnb81 := NB428_436.out
     have hnc81 := NB436_428.out
     obtain ⟨hcz82_0, hcz82_1, hcz82_2, hcz82_3, hcz82_4⟩ := zd5 BK428
     obtain ⟨hfz82_0, hfz82_1, hfz82_2, hfz82_3, hfz82_4⟩ := zn5 BK428
     go_wp2_with (first | (go_at_call 46; (with_reducible refine (laws_eqFlyPath.calls kj13 t437 t438 _ _ t439 t442 t443 t420 t421 _ _ t422 t425 t426 true _ ?side1 ?side2 ?side3 ?side4 A74.out).mono ?_); (case side1 => repeat (first | exact (Kd.R_reads' HO_446002.out).2.2 | (with_reducible refine Kd.C_alloc ?_ _) | (with_reducible refine Kd.C_drewN ?_ _) | (with_reducible refine Kd.C_drew ?_))); (case side2 => exact (Kd.R_reads' HO_446002.out).2.1); (case side3 => repeat (first | exact (Kd.R_reads' HO_429002.out).2.2 | (with_reducible refine Kd.C_alloc ?_ _) | (with_reducible refine Kd.C_drewN ?_ _) | (with_reducible refine Kd.C_drew ?_))); (case side4 => exact (Kd.R_reads' HO_429002.out).2.1); rintro e w83 ⟨rfl, hb⟩; replace HO_429002 := zA (Kd.R_below (zr HO_429002) hb); replace HO_437002 := zA (Kd.R_below (zr HO_437002) hb); replace HO_446002 := zA (Kd.R_below (zr HO_446002) hb); replace HO451 := zA (Kd.R_below (zr HO451) hb); replace BK411 := zb BK411 hb; replace BK428 := zb BK428 hb; replace BK436 := zb BK436 hb; replace BK445 := zb BK445 hb; replace HB := zA (below_step (by repeat (first | (with_reducible first | exact HB.out | apply below_alloc | apply pw_below_drewN | apply below_drew1 | refine below_set ?_ GE411.out | refine below_set ?_ GE428.out | refine below_set ?_ GE436.out | refine below_set ?_ GE445.out) | exact HB.out)) hb); (try clear hb); (try clear hb2); (try clear hk); (try clear hi)))
     go_meet
     case rel => exact ⟨_, ((t444 != t427)), zi, H', ⟨by have := HJ13.out; first | omega | exact Nat.le_refl _⟩, ⟨by (with_reducible repeat (first | apply Kd.R_alloc | apply Kd.R_drewN | apply Kd.R_drew)); exact Kd.R_mono HO_429002.out (fun _ hk => ⟨hk.1, hk.2.1⟩)⟩, ⟨by (with_reducible repeat (first | apply Kd.R_alloc | apply Kd.R_drewN | apply Kd.R_drew)); exact Kd.R_mono HO_437002.out (fun _ hk => ⟨hk.1.1, hk.1.2⟩)⟩, ⟨by (with_reducible repeat (first | apply Kd.R_alloc | apply Kd.R_drewN | apply Kd.R_drew)); exact Kd.R_mono HO_446002.out (fun _ hk => ⟨hk.1, hk.2.1⟩)⟩, ⟨zh BK411⟩, ⟨zh BK428⟩, ⟨zh BK436⟩, ⟨zh BK445⟩, ⟨by repeat (first | (with_reducible first | exact HB.out | apply below_alloc | apply pw_below_drewN | apply below_drew1 | refine below_set ?_ GE411.out | refine below_set ?_ GE428.out | refine below_set ?_ GE436.out | refine below_set ?_ GE445.out) | exact HB.out)⟩⟩
    replace c75 := Bool.eq_false_iff.mpr c75
    subst c75
    have H1 : (laws_FnExactFlyRest.j1 kj13 a1 a2 a3 t427 true a0_0 a0_1 l0_2 a0_3 a0_4 t420 t421 t422 t425 t426 t437 t438 t439 t442 t443) = some r := by rw [if_neg (show ¬ (false = true) by decide)] at H; exact H
    clear H
    have H := H1
    clear H1
    have H' := zA H
    clear H
    have hnb84 := NB445_411.out
    have hnc84 := NB411_445.out
    have hnb85 := NB445_428.out
    have hnc85 := NB428_445.out
    have hnb86 := NB445_436.out
    have hnc86 := NB436_445.out
    obtain ⟨hcz87_0, hcz87_1, hcz87_2, hcz87_3, hcz87_4⟩ := zd5 BK445
    obtain ⟨hfz87_0, hfz87_1, hfz87_2, hfz87_3, hfz87_4⟩ := zn5 BK445
    have hnb88 := NB428_411.out
    have hnc88 := NB411_428.out
    have hnb89 := NB428_436.out
    have hnc89 := NB436_428.out
    obtain ⟨hcz90_0, hcz90_1, hcz90_2, hcz90_3, hcz90_4⟩ := zd5 BK428
    obtain ⟨hfz90_0, hfz90_1, hfz90_2, hfz90_3, hfz90_4⟩ := zn5 BK428
    go_wp2_with (first | (go_at_call 46; (with_reducible refine (laws_eqFlyPath.calls kj13 t437 t438 _ _ t439 t442 t443 t420 t421 _ _ t422 t425 t426 false _ ?side1 ?side2 ?side3 ?side4 A74.out).mono ?_); (case side1 => repeat (first | exact (Kd.R_reads' HO_446002.out).2.2 | (with_reducible refine Kd.C_alloc ?_ _) | (with_reducible refine Kd.C_drewN ?_ _) | (with_reducible refine Kd.C_drew ?_))); (case side2 => exact (Kd.R_reads' HO_446002.out).2.1); (case side3 => repeat (first | exact (Kd.R_reads' HO_429002.out).2.2 | (with_reducible refine Kd.C_alloc ?_ _) | (with_reducible refine Kd.C_drewN ?_ _) | (with_reducible refine Kd.C_drew ?_))); (case side4 => exact (Kd.R_reads' HO_429002.out).2.1); rintro e w91 ⟨rfl, hb⟩; replace HO_429002 := zA (Kd.R_below (zr HO_429002) hb); replace HO_437002 := zA (Kd.R_below (zr HO_437002) hb); replace HO_446002 := zA (Kd.R_below (zr HO_446002) hb); replace HO451 := zA (Kd.R_below (zr HO451) hb); replace BK411 := zb BK411 hb; replace BK428 := zb BK428 hb; replace BK436 := zb BK436 hb; replace BK445 := zb BK445 hb; replace HB := zA (below_step (by repeat (first | (with_reducible first | exact HB.out | apply below_alloc | apply pw_below_drewN | apply below_drew1 | refine below_set ?_ GE411.out | refine below_set ?_ GE428.out | refine below_set ?_ GE436.out | refine below_set ?_ GE445.out) | exact HB.out)) hb); (try clear hb); (try clear hb2); (try clear hk); (try clear hi)))
    go_meet
    case rel => exact ⟨_, (true), zi, H', ⟨by have := HJ13.out; first | omega | exact Nat.le_refl _⟩, ⟨by (with_reducible repeat (first | apply Kd.R_alloc | apply Kd.R_drewN | apply Kd.R_drew)); exact Kd.R_mono HO_429002.out (fun _ hk => ⟨hk.1, hk.2.1⟩)⟩, ⟨by (with_reducible repeat (first | apply Kd.R_alloc | apply Kd.R_drewN | apply Kd.R_drew)); exact Kd.R_mono HO_437002.out (fun _ hk => ⟨hk.1.1, hk.1.2⟩)⟩, ⟨by (with_reducible repeat (first | apply Kd.R_alloc | apply Kd.R_drewN | apply Kd.R_drew)); exact Kd.R_mono HO_446002.out (fun _ hk => ⟨hk.1, hk.2.1⟩)⟩, ⟨zh BK411⟩, ⟨zh BK428⟩, ⟨zh BK436⟩, ⟨zh BK445⟩, ⟨by repeat (first | (with_reducible first | exact HB.out | apply below_alloc | apply pw_below_drewN | apply below_drew1 | refine below_set ?_ GE411.out | refine below_set ?_ GE428.out | refine below_set ?_ GE436.out | refine below_set ?_ GE445.out) | exact HB.out)⟩⟩
   case rest =>
    clear HC63
    try clear c1
    try clear c2
    try clear p2
    try clear c3
    try clear c4
    try clear c5
    try clear c6
    try clear c6b0
    try clear c7
    try clear c8
    try clear c13
    try clear c23
    try clear c29
    try clear c30
    try clear c35
    try clear c36
    try clear c37
    try clear c41
    try clear c42
    try clear c43
    try clear c44
    try clear c46
    try clear c47
    try clear c50
    try clear c51
    try clear c52
    try clear c54
    try clear c55
    try clear c58
    try clear c61
    try clear c62
    try clear c64
    try clear c68
    try clear c69
    try clear c70
    try clear c71
    try clear c72
    try clear c73
    try clear c73b0
    try clear c75
    try clear c76
    try clear c77
    try clear c78
    try clear c80
    try clear c81
    try clear c84
    try clear c85
    try clear c86
    try clear c88
    try clear c89
    try clear hcz16_0 hcz16_1 hcz16_2 hcz16_3 hcz16_4
    try clear hcz18_0 hcz18_1 hcz18_2 hcz18_3 hcz18_4
    try clear hcz24_0 hcz24_1 hcz24_2 hcz24_3 hcz24_4
    try clear hcz26_0 hcz26_1 hcz26_2 hcz26_3 hcz26_4
    try clear hcz31_0 hcz31_1 hcz31_2 hcz31_3 hcz31_4
    try clear hcz38_0 hcz38_1 hcz38_2 hcz38_3 hcz38_4
    try clear hcz45_0 hcz45_1 hcz45_2 hcz45_3 hcz45_4
    try clear hcz48_0 hcz48_1 hcz48_2 hcz48_3 hcz48_4
    try clear hcz53_0 hcz53_1 hcz53_2 hcz53_3 hcz53_4
    try clear hcz56_0 hcz56_1 hcz56_2 hcz56_3 hcz56_4
    try clear hcz71_0 hcz71_1 hcz71_2 hcz71_3 hcz71_4
    try clear hcz79_0 hcz79_1 hcz79_2 hcz79_3 hcz79_4
    try clear hcz82_0 hcz82_1 hcz82_2 hcz82_3 hcz82_4
    try clear hcz87_0 hcz87_1 hcz87_2 hcz87_3 hcz87_4
    try clear hcz8_0 hcz8_1 hcz8_2 hcz8_3 hcz8_4
    try clear hcz90_0 hcz90_1 hcz90_2 hcz90_3 hcz90_4
    try clear hfz16_0 hfz16_1 hfz16_2 hfz16_3 hfz16_4
    try clear hfz18_0 hfz18_1 hfz18_2 hfz18_3 hfz18_4
    try clear hfz24_0 hfz24_1 hfz24_2 hfz24_3 hfz24_4
    try clear hfz26_0 hfz26_1 hfz26_2 hfz26_3 hfz26_4
    try clear hfz31_0 hfz31_1 hfz31_2 hfz31_3 hfz31_4
    try clear hfz38_0 hfz38_1 hfz38_2 hfz38_3 hfz38_4
    try clear hfz45_0 hfz45_1 hfz45_2 hfz45_3 hfz45_4
    try clear hfz48_0 hfz48_1 hfz48_2 hfz48_3 hfz48_4
    try clear hfz53_0 hfz53_1 hfz53_2 hfz53_3 hfz53_4
    try clear hfz56_0 hfz56_1 hfz56_2 hfz56_3 hfz56_4
    try clear hfz71_0 hfz71_1 hfz71_2 hfz71_3 hfz71_4
    try clear hfz79_0 hfz79_1 hfz79_2 hfz79_3 hfz79_4
    try clear hfz82_0 hfz82_1 hfz82_2 hfz82_3 hfz82_4
    try clear hfz87_0 hfz87_1 hfz87_2 hfz87_3 hfz87_4
    try clear hfz8_0 hfz8_1 hfz8_2 hfz8_3 hfz8_4
    try clear hfz90_0 hfz90_1 hfz90_2 hfz90_3 hfz90_4
    try clear p2
    obtain ⟨kq, x73_62, rfl, HA, HJ62, HO_429002, HO_437002, HO_446002, BK411, BK428, BK436, BK445, HB⟩ := hcut
    have hl437002_62 := (Kd.R_reads' HO_437002.out).1
    rw [hl437002_62] at HO_437002
    (try simp only [hl437002_62])
    (try simp only [hl437002_62] at BK411)
    (try simp only [hl437002_62] at BK428)
    (try simp only [hl437002_62] at BK436)
    (try simp only [hl437002_62] at BK445)
    (try simp only [hl437002_62] at HO_429002)
    (try simp only [hl437002_62] at HO_446002)
    cases kq with
    | zero => exact absurd HA.out (by simp [laws_FnExactFlyRest.j1])
    | succ kj62 =>
     have H := HA.out
     clear HA
     simp only [laws_FnExactFlyRest.j1] at H
     by_cases c92 : x73_62 = true
     ·subst c92
      have H1 : (some false) = some r := by rw [if_pos rfl] at H; exact H
      clear H
      have H := H1
      clear H1
      obtain rfl := Option.some.inj H
      go_wp2
      go_ret
      exact ⟨ze, by repeat (first | (with_reducible first | exact HB.out | apply below_alloc | apply pw_below_drewN | apply below_drew1 | refine below_set ?_ GE411.out | refine below_set ?_ GE428.out | refine below_set ?_ GE436.out | refine below_set ?_ GE445.out) | exact HB.out)⟩
     replace c92 := Bool.eq_false_iff.mpr c92
     subst c92
     have H1 : ((laws_markFlyPath.f kj62 t437 t438 t439 t442 t443 1).bind fun bt458 => ((laws_heldFlyPath.f kj62 t437 t438 bt458.2 t442 t443 1).bind fun t460 => (if t460 < 0 then (some false) else (if t460 = bt458.1 then ((laws_toFlyPath.f kj62 a0_0 a0_1 l0_2 a0_3 a0_4).bind fun bt461 => ((impl_FlyRest.f kj62 bt461.1 bt461.2.1 bt461.2.2.1 bt461.2.2.2.1 bt461.2.2.2.2 a1 a2 a3).bind fun bt468 => ((laws_eqFlyPath.f kj62 bt468.1 bt468.2.1 bt468.2.2.1 bt468.2.2.2.1 bt468.2.2.2.2.1 t420 t421 t422 t425 t426).bind fun t477 => (if t477 = true then (laws_FnExactFlyRest.j2 kj62 bt458.1 (bt468.2.2.2.2.2 != t427) t437 t438 bt458.2 t442 t443) else (laws_FnExactFlyRest.j2 kj62 bt458.1 true t437 t438 bt458.2 t442 t443))))) else (some false))))) = some r := by rw [if_neg (show ¬ (false = true) by decide)] at H; exact H
     clear H
     have H := H1
     clear H1
     replace H := Option.bind_eq_some_iff.mp H
     obtain ⟨⟨t458, t459⟩, A930, H⟩ := H
     replace H : ((laws_heldFlyPath.f kj62 t437 t438 t459 t442 t443 1).bind fun t460 => (if t460 < 0 then (some false) else (if t460 = t458 then ((laws_toFlyPath.f kj62 a0_0 a0_1 l0_2 a0_3 a0_4).bind fun bt461 => ((impl_FlyRest.f kj62 bt461.1 bt461.2.1 bt461.2.2.1 bt461.2.2.2.1 bt461.2.2.2.2 a1 a2 a3).bind fun bt468 => ((laws_eqFlyPath.f kj62 bt468.1 bt468.2.1 bt468.2.2.1 bt468.2.2.2.1 bt468.2.2.2.2.1 t420 t421 t422 t425 t426).bind fun t477 => (if t477 = true then (laws_FnExactFlyRest.j2 kj62 t458 (bt468.2.2.2.2.2 != t427) t437 t438 t459 t442 t443) else (laws_FnExactFlyRest.j2 kj62 t458 true t437 t438 t459 t442 t443))))) else (some false)))) = some r := H
     have A93 := zA A930
     clear A930
     replace H := zbd H; obtain ⟨t460, A94, H⟩ := H
     by_cases c95 : t460 < 0
     ·rw [if_pos c95] at H
      have c95b0 : decide (t460 < 0) = true := decide_eq_true c95
      clear c95
      obtain rfl := Option.some.inj H
      have hnb96 := NB445_411.out
      have hnc96 := NB411_445.out
      have hnb97 := NB445_428.out
      have hnc97 := NB428_445.out
      have hnb98 := NB445_436.out
      have hnc98 := NB436_445.out
      obtain ⟨hcz99_0, hcz99_1, hcz99_2, hcz99_3, hcz99_4⟩ := zd5 BK445
      obtain ⟨hfz99_0, hfz99_1, hfz99_2, hfz99_3, hfz99_4⟩ := zn5 BK445
      go_wp2_with (first | ((with_reducible refine gate_callee (f := 47) rfl ?_); refine zgl (N := some 76) Try.func47 #[.agg #[.int .i64 t437, .int .i64 t438, .slice Ao39 t439.length co39, .int .i64 t442, .int .i64 t443], .int .i64 1] ?_; (with_reducible refine (laws_markFlyPath.calls kj62 t437 t438 (fun k_ => some k_ = (.slice Ao39 t439.length co39 : Value).ownBlock) (.slice Ao39 t439.length co39) t439 t442 t443 1 t458 t459 w _ ?side1 ?side2 A93.out).mono ?_); (case side1 => repeat (first | (with_reducible first | exact HB.out | apply below_alloc | apply pw_below_drewN | apply below_drew1 | refine below_set ?_ GE411.out | refine below_set ?_ GE428.out | refine below_set ?_ GE436.out | refine below_set ?_ GE445.out) | exact HB.out)); (case side2 => exact Kd.R_tight rfl HO_446002.out); rintro e w100 ⟨rfl, hy0, hb, hkp⟩; refine ⟨_, rfl, ?_⟩; replace HO_429002 := zA (Kd.R_mono (ok' := fun k_ => some k_ ≠ (.slice Ao32 t456.length co32 : Value).ownBlock ∧ some k_ ≠ (.slice Ao39 t439.length co39 : Value).ownBlock) (Kd.R_keptB (HO_429002.out) hkp (fun k_ hk_ hs_ => (hk_.2) hs_)) (fun k_ hk_ => ⟨hk_.1.1, hk_.1.2⟩)); replace HO_437002 := zA (Kd.R_mono (ok' := fun k_ => some k_ ≠ (.slice Ao25 t422.length co25 : Value).ownBlock ∧ some k_ ≠ (.slice Ao39 t439.length co39 : Value).ownBlock) (Kd.R_keptB (HO_437002.out) hkp (fun k_ hk_ hs_ => (hk_.2) hs_)) (fun k_ hk_ => ⟨hk_.1.1, hk_.1.2⟩)); replace BK411 := zA (blk_kept (zh BK411) hkp (fun hs_ => (fun e_ => (Kd.R_ne HO_446002.out BK411.out (by decide)) e_) hs_)); replace BK428 := zA (blk_kept (zh BK428) hkp (fun hs_ => (fun e_ => (Kd.R_ne HO_446002.out BK428.out (by decide)) e_) hs_)); replace BK436 := zA (blk_kept (zh BK436) hkp (fun hs_ => (fun e_ => (Kd.R_ne HO_446002.out BK436.out (by decide)) e_) hs_)); replace BK445 := zA (blk_kept (zh BK445) hkp (fun hs_ => (fun e_ => (Kd.R_ne HO_446002.out BK445.out (by decide)) e_) hs_)); replace HO_446002 := zA (Kd.R_reok rfl hy0 (fun k_ e_ => HO_446002.out.1 k_ e_)); replace HB := zA (hb); (try clear hb); (try clear hkp); (try clear hy0); obtain ⟨hcz101_0, hcz101_1, hcz101_2, hcz101_3, hcz101_4⟩ := zd5 BK445; obtain ⟨hfz101_0, hfz101_1, hfz101_2, hfz101_3, hfz101_4⟩ := zn5 BK445) | ((with_reducible refine gate_callee (f := 48) rfl ?_); refine goesL_ (some 79) rfl rfl Try.func48 (by kernel_rfl) rfl #[.agg #[.int .i64 t437, .int .i64 t438, .slice Ao39 t459.length co39, .int .i64 t442, .int .i64 t443], .int .i64 1] rfl (by (try simp only [List.map_toArray, List.map_cons, List.map_nil]); first | done | (rw [show t459.length = t439.length from (Kd.R_reads' HO_446002.out).1.symm] <;> rfl) | rfl | (simp only [List.length_drop, List.length_take]; rfl)) ?_; (with_reducible refine (laws_heldFlyPath.calls kj62 t437 t438 _ _ t459 t442 t443 1 t460 _ ?side1 ?side2 A94.out).mono ?_); (case side1 => repeat (first | exact (Kd.R_reads' HO_446002.out).2.2 | (with_reducible refine Kd.C_alloc ?_ _) | (with_reducible refine Kd.C_drewN ?_ _) | (with_reducible refine Kd.C_drew ?_))); (case side2 => rw [show t459.length = t439.length from (Kd.R_reads' HO_446002.out).1.symm]; exact (Kd.R_reads' HO_446002.out).2.1); rintro e w102 ⟨rfl, hb⟩; refine ⟨_, rfl, ?_⟩; replace HO_429002 := zA (Kd.R_below (zr HO_429002) hb); replace HO_437002 := zA (Kd.R_below (zr HO_437002) hb); replace HO_446002 := zA (Kd.R_below (zr HO_446002) hb); replace BK411 := zb BK411 hb; replace BK428 := zb BK428 hb; replace BK436 := zb BK436 hb; replace BK445 := zb BK445 hb; replace HB := zA (below_step (by repeat (first | (with_reducible first | exact HB.out | apply below_alloc | apply pw_below_drewN | apply below_drew1 | refine below_set ?_ GE411.out | refine below_set ?_ GE428.out | refine below_set ?_ GE436.out | refine below_set ?_ GE445.out) | exact HB.out)) hb); (try clear hb); (try clear hb2); (try clear hk); (try clear hi)))
      go_ret
      exact ⟨ze, by repeat (first | (with_reducible first | exact HB.out | apply below_alloc | apply pw_below_drewN | apply below_drew1 | refine below_set ?_ GE411.out | refine below_set ?_ GE428.out | refine below_set ?_ GE436.out | refine below_set ?_ GE445.out) | exact HB.out)⟩
     rw [if_neg c95] at H
     have c95b0 : decide (t460 < 0) = false := decide_eq_false c95
     clear c95
     by_cases c103 : t460 = t458
     rotate_left
     ·rw [if_neg c103] at H
      have c103b0 : (t460 == t458) = false := beq_eq_false_iff_ne.mpr c103
      have c103b1 : (t460 != t458) = true := bne_iff_ne.mpr c103
      obtain rfl := Option.some.inj H
      have hnb171 := NB445_411.out
      have hnc171 := NB411_445.out
      have hnb172 := NB445_428.out
      have hnc172 := NB428_445.out
      have hnb173 := NB445_436.out
      have hnc173 := NB436_445.out
      obtain ⟨hcz174_0, hcz174_1, hcz174_2, hcz174_3, hcz174_4⟩ := zd5 BK445
      obtain ⟨hfz174_0, hfz174_1, hfz174_2, hfz174_3, hfz174_4⟩ := zn5 BK445
      go_wp2_with (first | ((with_reducible refine gate_callee (f := 47) rfl ?_); refine zgl (N := some 76) Try.func47 #[.agg #[.int .i64 t437, .int .i64 t438, .slice Ao39 t439.length co39, .int .i64 t442, .int .i64 t443], .int .i64 1] ?_; (with_reducible refine (laws_markFlyPath.calls kj62 t437 t438 (fun k_ => some k_ = (.slice Ao39 t439.length co39 : Value).ownBlock) (.slice Ao39 t439.length co39) t439 t442 t443 1 t458 t459 w _ ?side1 ?side2 A93.out).mono ?_); (case side1 => repeat (first | (with_reducible first | exact HB.out | apply below_alloc | apply pw_below_drewN | apply below_drew1 | refine below_set ?_ GE411.out | refine below_set ?_ GE428.out | refine below_set ?_ GE436.out | refine below_set ?_ GE445.out) | exact HB.out)); (case side2 => exact Kd.R_tight rfl HO_446002.out); rintro e w175 ⟨rfl, hy0, hb, hkp⟩; refine ⟨_, rfl, ?_⟩; replace HO_429002 := zA (Kd.R_mono (ok' := fun k_ => some k_ ≠ (.slice Ao32 t456.length co32 : Value).ownBlock ∧ some k_ ≠ (.slice Ao39 t439.length co39 : Value).ownBlock) (Kd.R_keptB (HO_429002.out) hkp (fun k_ hk_ hs_ => (hk_.2) hs_)) (fun k_ hk_ => ⟨hk_.1.1, hk_.1.2⟩)); replace HO_437002 := zA (Kd.R_mono (ok' := fun k_ => some k_ ≠ (.slice Ao25 t422.length co25 : Value).ownBlock ∧ some k_ ≠ (.slice Ao39 t439.length co39 : Value).ownBlock) (Kd.R_keptB (HO_437002.out) hkp (fun k_ hk_ hs_ => (hk_.2) hs_)) (fun k_ hk_ => ⟨hk_.1.1, hk_.1.2⟩)); replace BK411 := zA (blk_kept (zh BK411) hkp (fun hs_ => (fun e_ => (Kd.R_ne HO_446002.out BK411.out (by decide)) e_) hs_)); replace BK428 := zA (blk_kept (zh BK428) hkp (fun hs_ => (fun e_ => (Kd.R_ne HO_446002.out BK428.out (by decide)) e_) hs_)); replace BK436 := zA (blk_kept (zh BK436) hkp (fun hs_ => (fun e_ => (Kd.R_ne HO_446002.out BK436.out (by decide)) e_) hs_)); replace BK445 := zA (blk_kept (zh BK445) hkp (fun hs_ => (fun e_ => (Kd.R_ne HO_446002.out BK445.out (by decide)) e_) hs_)); replace HO_446002 := zA (Kd.R_reok rfl hy0 (fun k_ e_ => HO_446002.out.1 k_ e_)); replace HB := zA (hb); (try clear hb); (try clear hkp); (try clear hy0); obtain ⟨hcz176_0, hcz176_1, hcz176_2, hcz176_3, hcz176_4⟩ := zd5 BK445; obtain ⟨hfz176_0, hfz176_1, hfz176_2, hfz176_3, hfz176_4⟩ := zn5 BK445) | ((with_reducible refine gate_callee (f := 48) rfl ?_); refine goesL_ (some 79) rfl rfl Try.func48 (by kernel_rfl) rfl #[.agg #[.int .i64 t437, .int .i64 t438, .slice Ao39 t459.length co39, .int .i64 t442, .int .i64 t443], .int .i64 1] rfl (by (try simp only [List.map_toArray, List.map_cons, List.map_nil]); first | done | (rw [show t459.length = t439.length from (Kd.R_reads' HO_446002.out).1.symm] <;> rfl) | rfl | (simp only [List.length_drop, List.length_take]; rfl)) ?_; (with_reducible refine (laws_heldFlyPath.calls kj62 t437 t438 _ _ t459 t442 t443 1 t460 _ ?side1 ?side2 A94.out).mono ?_); (case side1 => repeat (first | exact (Kd.R_reads' HO_446002.out).2.2 | (with_reducible refine Kd.C_alloc ?_ _) | (with_reducible refine Kd.C_drewN ?_ _) | (with_reducible refine Kd.C_drew ?_))); (case side2 => rw [show t459.length = t439.length from (Kd.R_reads' HO_446002.out).1.symm]; exact (Kd.R_reads' HO_446002.out).2.1); rintro e w177 ⟨rfl, hb⟩; refine ⟨_, rfl, ?_⟩; replace HO_429002 := zA (Kd.R_below (zr HO_429002) hb); replace HO_437002 := zA (Kd.R_below (zr HO_437002) hb); replace HO_446002 := zA (Kd.R_below (zr HO_446002) hb); replace BK411 := zb BK411 hb; replace BK428 := zb BK428 hb; replace BK436 := zb BK436 hb; replace BK445 := zb BK445 hb; replace HB := zA (below_step (by repeat (first | (with_reducible first | exact HB.out | apply below_alloc | apply pw_below_drewN | apply below_drew1 | refine below_set ?_ GE411.out | refine below_set ?_ GE428.out | refine below_set ?_ GE436.out | refine below_set ?_ GE445.out) | exact HB.out)) hb); (try clear hb); (try clear hb2); (try clear hk); (try clear hi)))
      go_ret
      exact ⟨ze, by repeat (first | (with_reducible first | exact HB.out | apply below_alloc | apply pw_below_drewN | apply below_drew1 | refine below_set ?_ GE411.out | refine below_set ?_ GE428.out | refine below_set ?_ GE436.out | refine below_set ?_ GE445.out) | exact HB.out)⟩
     rw [if_pos c103] at H
     have c103b0 : (t460 == t458) = true := beq_iff_eq.mpr c103
     have c103b1 : (t460 != t458) = false := bne_eq_false_iff_eq.mpr c103
     clear c103
     replace H := Option.bind_eq_some_iff.mp H
     obtain ⟨⟨t461, t462, t463, t466, t467⟩, A1040, H⟩ := H
     replace H : ((impl_FlyRest.f kj62 t461 t462 t463 t466 t467 a1 a2 a3).bind fun bt468 => ((laws_eqFlyPath.f kj62 bt468.1 bt468.2.1 bt468.2.2.1 bt468.2.2.2.1 bt468.2.2.2.2.1 t420 t421 t422 t425 t426).bind fun t477 => (if t477 = true then (laws_FnExactFlyRest.j2 kj62 t458 (bt468.2.2.2.2.2 != t427) t437 t438 t459 t442 t443) else (laws_FnExactFlyRest.j2 kj62 t458 true t437 t438 t459 t442 t443)))) = some r := H
     have A104 := zA A1040
     clear A1040
     replace H := Option.bind_eq_some_iff.mp H
     obtain ⟨⟨t468, t469, t470, t473, t474, t475⟩, A1050, H⟩ := H
     replace H : ((laws_eqFlyPath.f kj62 t468 t469 t470 t473 t474 t420 t421 t422 t425 t426).bind fun t477 => (if t477 = true then (laws_FnExactFlyRest.j2 kj62 t458 (t475 != t427) t437 t438 t459 t442 t443) else (laws_FnExactFlyRest.j2 kj62 t458 true t437 t438 t459 t442 t443))) = some r := H
     have A105 := zA A1050
     clear A1050
     have HC106 := zA H
     clear H
     have hnb107 := NB445_411.out
     have hnc107 := NB411_445.out
     have hnb108 := NB445_428.out
     have hnc108 := NB428_445.out
     have hnb109 := NB445_436.out
     have hnc109 := NB436_445.out
     obtain ⟨hcz110_0, hcz110_1, hcz110_2, hcz110_3, hcz110_4⟩ := zd5 BK445
     obtain ⟨hfz110_0, hfz110_1, hfz110_2, hfz110_3, hfz110_4⟩ := zn5 BK445
     go_upto_region 25 with (first | ((with_reducible refine gate_callee (f := 47) rfl ?_); refine zgl (N := some 76) Try.func47 #[.agg #[.int .i64 t437, .int .i64 t438, .slice Ao39 t439.length co39, .int .i64 t442, .int .i64 t443], .int .i64 1] ?_; (with_reducible refine (laws_markFlyPath.calls kj62 t437 t438 (fun k_ => some k_ = (.slice Ao39 t439.length co39 : Value).ownBlock) (.slice Ao39 t439.length co39) t439 t442 t443 1 t458 t459 w _ ?side1 ?side2 A93.out).mono ?_); (case side1 => repeat (first | (with_reducible first | exact HB.out | apply below_alloc | apply pw_below_drewN | apply below_drew1 | refine below_set ?_ GE411.out | refine below_set ?_ GE428.out | refine below_set ?_ GE436.out | refine below_set ?_ GE445.out) | exact HB.out)); (case side2 => exact Kd.R_tight rfl HO_446002.out); rintro e w111 ⟨rfl, hy0, hb, hkp⟩; refine ⟨_, rfl, ?_⟩; replace HO_429002 := zA (Kd.R_mono (ok' := fun k_ => some k_ ≠ (.slice Ao32 t456.length co32 : Value).ownBlock ∧ some k_ ≠ (.slice Ao39 t439.length co39 : Value).ownBlock) (Kd.R_keptB (HO_429002.out) hkp (fun k_ hk_ hs_ => (hk_.2) hs_)) (fun k_ hk_ => ⟨hk_.1.1, hk_.1.2⟩)); replace HO_437002 := zA (Kd.R_mono (ok' := fun k_ => some k_ ≠ (.slice Ao25 t422.length co25 : Value).ownBlock ∧ some k_ ≠ (.slice Ao39 t439.length co39 : Value).ownBlock) (Kd.R_keptB (HO_437002.out) hkp (fun k_ hk_ hs_ => (hk_.2) hs_)) (fun k_ hk_ => ⟨hk_.1.1, hk_.1.2⟩)); replace BK411 := zA (blk_kept (zh BK411) hkp (fun hs_ => (fun e_ => (Kd.R_ne HO_446002.out BK411.out (by decide)) e_) hs_)); replace BK428 := zA (blk_kept (zh BK428) hkp (fun hs_ => (fun e_ => (Kd.R_ne HO_446002.out BK428.out (by decide)) e_) hs_)); replace BK436 := zA (blk_kept (zh BK436) hkp (fun hs_ => (fun e_ => (Kd.R_ne HO_446002.out BK436.out (by decide)) e_) hs_)); replace BK445 := zA (blk_kept (zh BK445) hkp (fun hs_ => (fun e_ => (Kd.R_ne HO_446002.out BK445.out (by decide)) e_) hs_)); replace HO_446002 := zA (Kd.R_reok rfl hy0 (fun k_ e_ => HO_446002.out.1 k_ e_)); replace HB := zA (hb); (try clear hb); (try clear hkp); (try clear hy0); obtain ⟨hcz112_0, hcz112_1, hcz112_2, hcz112_3, hcz112_4⟩ := zd5 BK445; obtain ⟨hfz112_0, hfz112_1, hfz112_2, hfz112_3, hfz112_4⟩ := zn5 BK445) | ((with_reducible refine gate_callee (f := 48) rfl ?_); refine goesL_ (some 79) rfl rfl Try.func48 (by kernel_rfl) rfl #[.agg #[.int .i64 t437, .int .i64 t438, .slice Ao39 t459.length co39, .int .i64 t442, .int .i64 t443], .int .i64 1] rfl (by (try simp only [List.map_toArray, List.map_cons, List.map_nil]); first | done | (rw [show t459.length = t439.length from (Kd.R_reads' HO_446002.out).1.symm] <;> rfl) | rfl | (simp only [List.length_drop, List.length_take]; rfl)) ?_; (with_reducible refine (laws_heldFlyPath.calls kj62 t437 t438 _ _ t459 t442 t443 1 t460 _ ?side1 ?side2 A94.out).mono ?_); (case side1 => repeat (first | exact (Kd.R_reads' HO_446002.out).2.2 | (with_reducible refine Kd.C_alloc ?_ _) | (with_reducible refine Kd.C_drewN ?_ _) | (with_reducible refine Kd.C_drew ?_))); (case side2 => rw [show t459.length = t439.length from (Kd.R_reads' HO_446002.out).1.symm]; exact (Kd.R_reads' HO_446002.out).2.1); rintro e w113 ⟨rfl, hb⟩; refine ⟨_, rfl, ?_⟩; replace HO_429002 := zA (Kd.R_below (zr HO_429002) hb); replace HO_437002 := zA (Kd.R_below (zr HO_437002) hb); replace HO_446002 := zA (Kd.R_below (zr HO_446002) hb); replace BK411 := zb BK411 hb; replace BK428 := zb BK428 hb; replace BK436 := zb BK436 hb; replace BK445 := zb BK445 hb; replace HB := zA (below_step (by repeat (first | (with_reducible first | exact HB.out | apply below_alloc | apply pw_below_drewN | apply below_drew1 | refine below_set ?_ GE411.out | refine below_set ?_ GE428.out | refine below_set ?_ GE436.out | refine below_set ?_ GE445.out) | exact HB.out)) hb); (try clear hb); (try clear hb2); (try clear hk); (try clear hi); have hnb114 := NB411_428.out; have hnc114 := NB428_411.out; have hnb115 := NB411_436.out; have hnc115 := NB436_411.out; obtain ⟨hcz116_0, hcz116_1, hcz116_2, hcz116_3, hcz116_4⟩ := zd5 BK411; obtain ⟨hfz116_0, hfz116_1, hfz116_2, hfz116_3, hfz116_4⟩ := zn5 BK411) | ((with_reducible refine gate_callee (f := 64) rfl ?_); refine zgl (N := some 87) Try.func64 #[.agg #[.int .i64 a0_0, .int .i64 a0_1, .slice A0_2 l0_2.length c0_2, .int .i64 a0_3, .int .i64 a0_4]] ?_; (with_reducible refine (laws_toFlyPath.calls kj62 a0_0 a0_1 _ _ l0_2 a0_3 a0_4 t461 t462 t463 t466 t467 _ ?side1 ?side2 A104.out).mono ?_); (case side1 => exact zC HR0_2 HB); (case side2 => exact HC0_2.out); rintro e w117 ⟨v464, rfl, ho0, hb⟩; refine ⟨_, rfl, ?_⟩; have HO465 := zA (Kd.R_lower (Kd.R_new' (Kd.R_new' (Kd.R_new' ho0 (Kd.R_lt (zr HO_429002))) (Kd.R_lt (zr HO_437002))) (Kd.R_lt (zr HO_446002))) (below_size (by repeat (first | (with_reducible first | exact HB.out | apply below_alloc | apply pw_below_drewN | apply below_drew1 | refine below_set ?_ GE411.out | refine below_set ?_ GE428.out | refine below_set ?_ GE436.out | refine below_set ?_ GE445.out) | exact HB.out)))); replace HO_429002 := zA (Kd.R_elder' (zr HO_429002) (Kd.R_base ho0) hb); replace HO_437002 := zA (Kd.R_elder' (zr HO_437002) (Kd.R_base ho0) hb); replace HO_446002 := zA (Kd.R_elder' (zr HO_446002) (Kd.R_base ho0) hb); replace BK411 := zb BK411 hb; replace BK428 := zb BK428 hb; replace BK436 := zb BK436 hb; replace BK445 := zb BK445 hb; replace HB := zA (below_step (by repeat (first | (with_reducible first | exact HB.out | apply below_alloc | apply pw_below_drewN | apply below_drew1 | refine below_set ?_ GE411.out | refine below_set ?_ GE428.out | refine below_set ?_ GE436.out | refine below_set ?_ GE445.out) | exact HB.out)) hb); (try clear hb); (try clear hb2); (try clear hk); (try clear hi); (try clear ho0); obtain ⟨Ao118, co118, eo118⟩ := Kd.R_slice HO465.out; subst eo118) | ((with_reducible refine gate_callee (f := 72) rfl ?_); refine zgl (N := some 91) Try.func72 #[.agg #[.int .i64 t461, .int .i64 t462, .slice Ao118 t463.length co118, .int .i64 t466, .int .i64 t467], .int .i64 a1, .int .i64 a2, .int .i64 a3] ?_; (with_reducible refine (impl_FlyRest.calls kj62 t461 t462 _ _ t463 t466 t467 a1 a2 a3 t468 t469 t470 t473 t474 t475 _ ?side1 ?side2 A105.out).mono ?_); (case side1 => repeat (first | exact (Kd.R_reads' HO465.out).2.2 | (with_reducible refine Kd.C_alloc ?_ _) | (with_reducible refine Kd.C_drewN ?_ _) | (with_reducible refine Kd.C_drew ?_))); (case side2 => exact (Kd.R_reads' HO465.out).2.1); rintro e w119 ⟨v471, rfl, ho0, hb⟩; refine ⟨_, rfl, ?_⟩; have HO472 := zA (Kd.R_lower (Kd.R_new' (Kd.R_new' (Kd.R_new' (Kd.R_new' ho0 (Kd.R_lt (zr HO_429002))) (Kd.R_lt (zr HO_437002))) (Kd.R_lt (zr HO_446002))) (Kd.R_lt (zr HO465))) (below_size (by repeat (first | (with_reducible first | exact HB.out | apply below_alloc | apply pw_below_drewN | apply below_drew1 | refine below_set ?_ GE411.out | refine below_set ?_ GE428.out | refine below_set ?_ GE436.out | refine below_set ?_ GE445.out) | exact HB.out)))); replace HO_429002 := zA (Kd.R_elder' (zr HO_429002) (Kd.R_base ho0) hb); replace HO_437002 := zA (Kd.R_elder' (zr HO_437002) (Kd.R_base ho0) hb); replace HO_446002 := zA (Kd.R_elder' (zr HO_446002) (Kd.R_base ho0) hb); replace HO465 := zA (Kd.R_elder' (zr HO465) (Kd.R_base ho0) hb); replace BK411 := zb BK411 hb; replace BK428 := zb BK428 hb; replace BK436 := zb BK436 hb; replace BK445 := zb BK445 hb; replace HB := zA (below_step (by repeat (first | (with_reducible first | exact HB.out | apply below_alloc | apply pw_below_drewN | apply below_drew1 | refine below_set ?_ GE411.out | refine below_set ?_ GE428.out | refine below_set ?_ GE436.out | refine below_set ?_ GE445.out) | exact HB.out)) hb); (try clear hb); (try clear hb2); (try clear hk); (try clear hi); (try clear ho0)) | ((with_reducible refine gate_dst (N := 18) rfl ?_); refine zbx 18 #[.int .i64 0, .int .i64 0, .slice none 0 0, .int .i64 0, .int .i64 0] 68 ?_; intro gb476 hg w120 hbox hb; have BK476 := zA hbox; have GW476 := zA ((by rw [hg]; exact (below_size (by repeat (first | (with_reducible first | exact HB.out | apply below_alloc | apply pw_below_drewN | apply below_drew1 | refine below_set ?_ GE411.out | refine below_set ?_ GE428.out | refine below_set ?_ GE436.out | refine below_set ?_ GE445.out) | exact HB.out))) : w.heap.size ≤ gb476)); have GE476 := zA ((by rw [hg]; exact (below_size (by repeat (first | (with_reducible first | exact HB.out | apply below_alloc | apply pw_below_drewN | apply below_drew1 | refine below_set ?_ GE411.out | refine below_set ?_ GE428.out | refine below_set ?_ GE436.out | refine below_set ?_ GE445.out) | exact HB.out))) : w.heap.size ≤ gb476)); have NB411_476 := zne hg BK411; have NB476_411 := znf hg BK411; have NB428_476 := zne hg BK428; have NB476_428 := znf hg BK428; have NB436_476 := zne hg BK436; have NB476_436 := znf hg BK436; have NB445_476 := zne hg BK445; have NB476_445 := znf hg BK445; replace HO_429002 := zA (Kd.R_below (zr HO_429002) hb); replace HO_437002 := zA (Kd.R_below (zr HO_437002) hb); replace HO_446002 := zA (Kd.R_below (zr HO_446002) hb); replace HO465 := zA (Kd.R_below (zr HO465) hb); replace HO472 := zA (Kd.R_below (zr HO472) hb); replace BK411 := zb BK411 hb; replace BK428 := zb BK428 hb; replace BK436 := zb BK436 hb; replace BK445 := zb BK445 hb; replace HB := zA (below_step (by repeat (first | (with_reducible first | exact HB.out | apply below_alloc | apply pw_below_drewN | apply below_drew1 | refine below_set ?_ GE411.out | refine below_set ?_ GE428.out | refine below_set ?_ GE436.out | refine below_set ?_ GE445.out) | exact HB.out)) hb); clear hb hbox hg; have hnb121 := NB476_411.out; have hnc121 := NB411_476.out; have hnb122 := NB476_428.out; have hnc122 := NB428_476.out; have hnb123 := NB476_436.out; have hnc123 := NB436_476.out; have hnb124 := NB476_445.out; have hnc124 := NB445_476.out; obtain ⟨hcz125_0, hcz125_1, hcz125_2, hcz125_3, hcz125_4⟩ := zd5 BK476; obtain ⟨hfz125_0, hfz125_1, hfz125_2, hfz125_3, hfz125_4⟩ := zn5 BK476; obtain ⟨Ao126, co126, eo126⟩ := Kd.R_slice HO472.out; subst eo126))
     (try simp only [Act.put, List.setIfInBounds_toArray, List.set_cons_zero, List.set_cons_succ])
     go_cut [102] (fun v102 wc => ∃ (kq : Nat) (x102_105 : Bool), v102 = .bool x102_105 ∧ Aside0 (laws_FnExactFlyRest.j2 kq t458 x102_105 t437 t438 t459 t442 t443 = some r) ∧ Aside0 (kq ≤ kj62) ∧ Aside0 (Kd.R k132 132 wc w.heap.size (fun k_ => some k_ ≠ ((.slice Ao32 t456.length co32) : Value).ownBlock ∧ some k_ ≠ ((.slice Ao39 t439.length co39) : Value).ownBlock ∧ some k_ ≠ ((.slice Ao126 t470.length co126) : Value).ownBlock) (.slice Ao25 t422.length co25) t422) ∧ Aside0 (Kd.R k132 132 wc w.heap.size (fun k_ => some k_ ≠ ((.slice Ao25 t422.length co25) : Value).ownBlock ∧ some k_ ≠ ((.slice Ao39 t439.length co39) : Value).ownBlock ∧ some k_ ≠ ((.slice Ao126 t470.length co126) : Value).ownBlock) (.slice Ao32 t456.length co32) t456) ∧ Aside0 (Kd.R k132 132 wc w.heap.size (fun k_ => some k_ ≠ ((.slice Ao25 t422.length co25) : Value).ownBlock ∧ some k_ ≠ ((.slice Ao32 t456.length co32) : Value).ownBlock ∧ some k_ ≠ ((.slice Ao126 t470.length co126) : Value).ownBlock) (.slice Ao39 t439.length co39) t459) ∧ Aside0 (Kd.R k132 132 wc w.heap.size (fun k_ => some k_ ≠ ((.slice Ao25 t422.length co25) : Value).ownBlock ∧ some k_ ≠ ((.slice Ao32 t456.length co32) : Value).ownBlock ∧ some k_ ≠ ((.slice Ao39 t439.length co39) : Value).ownBlock) (.slice Ao126 t470.length co126) t470) ∧ Aside0 (wc.heap[gb411]? = some (.cells #[.int .i64 a0_0, .int .i64 a0_1, (.slice A0_2 l0_2.length c0_2), .int .i64 a0_3, .int .i64 a0_4] 91 (0, 0))) ∧ Aside0 (wc.heap[gb428]? = some (.cells #[.int .i64 t420, .int .i64 t421, (.slice Ao25 t422.length co25), .int .i64 t425, .int .i64 t426] 68 (0, 0))) ∧ Aside0 (wc.heap[gb436]? = some (.cells #[.int .i64 t429, .int .i64 t430, (.slice Ao32 t456.length co32), .int .i64 t434, .int .i64 t435] 68 (0, 0))) ∧ Aside0 (wc.heap[gb445]? = some (.cells #[.int .i64 t437, .int .i64 t438, (.slice Ao39 t439.length co39), .int .i64 t442, .int .i64 t443] 68 (0, 0))) ∧ Aside0 (wc.heap[gb476]? = some (.cells #[.int .i64 t468, .int .i64 t469, (.slice Ao126 t470.length co126), .int .i64 t473, .int .i64 t474] 68 (0, 0))) ∧ Aside0 (Below w.heap.size w wc))
     case first =>
      have H := HC106.out
      clear HC106
      replace H := zbd H; obtain ⟨t477, A127, H⟩ := H
      by_cases c128 : t477 = true
      ·subst c128
       have H1 : (laws_FnExactFlyRest.j2 kj62 t458 (t475 != t427) t437 t438 t459 t442 t443) = some r := by rw [if_pos rfl] at H; exact H
       clear H
       have H := H1
       clear H1
       have H' := zA H
       clear H
       have hnb129 := NB476_411.out
       have hnc129 := NB411_476.out
       have hnb130 := NB476_428.out
       have hnc130 := NB428_476.out
       have hnb131 := NB476_436.out
       have hnc131 := NB436_476.out
       have hnb132 := NB476_445.out
       have hnc132 := NB445_476.out
       obtain ⟨hcz133_0, hcz133_1, hcz133_2, hcz133_3, hcz133_4⟩ := zd5 BK476
       obtain ⟨hfz133_0, hfz133_1, hfz133_2, hfz133_3, hfz133_4⟩ := zn5 BK476
       have hnb134 := NB428_411.out
       have hnc134 := NB411_428.out
       have hnb135 := NB428_436.out
       have hnc135 := NB436_428.out
       have hnb136 := NB428_445.out
       have hnc136 := NB445_428.out
       obtain ⟨hcz137_0, hcz137_1, hcz137_2, hcz137_3, hcz137_4⟩ := zd5 BK428
       obtain ⟨hfz137_0, hfz137_1, hfz137_2, hfz137_3, hfz137_4⟩ := zn5 BK428
       go_wp2_with (first | ((with_reducible refine gate_callee (f := 46) rfl ?_); refine zgl (N := some 96) Try.func46 #[.agg #[.int .i64 t468, .int .i64 t469, .slice Ao126 t470.length co126, .int .i64 t473, .int .i64 t474], .agg #[.int .i64 t420, .int .i64 t421, .slice Ao25 t422.length co25, .int .i64 t425, .int .i64 t426]] ?_; (with_reducible refine (laws_eqFlyPath.calls kj62 t468 t469 _ _ t470 t473 t474 t420 t421 _ _ t422 t425 t426 true _ ?side1 ?side2 ?side3 ?side4 A127.out).mono ?_); (case side1 => refine (Kd.R_reads' (e := 132) (base := w.heap.size) (ok := fun k_ => ((((True ∧ some k_ ≠ (.slice Ao25 t422.length co25 : Value).ownBlock) ∧ some k_ ≠ (.slice Ao32 t456.length co32 : Value).ownBlock) ∧ some k_ ≠ (.slice Ao39 t439.length co39 : Value).ownBlock) ∧ some k_ ≠ (.slice Ao118 t463.length co118 : Value).ownBlock)) (n := t470.length) (c := co126) ?_).2.2; exact (zRf HO472 BK476 (fun _ h_ => h_.1))); (case side2 => exact (Kd.R_reads' HO472.out).2.1); (case side3 => refine (Kd.R_reads' (e := 132) (base := w.heap.size) (ok := fun k_ => (((some k_ ≠ (.slice Ao32 t456.length co32 : Value).ownBlock ∧ some k_ ≠ (.slice Ao39 t439.length co39 : Value).ownBlock) ∧ some k_ ≠ (.slice Ao118 t463.length co118 : Value).ownBlock) ∧ some k_ ≠ (.slice Ao126 t470.length co126 : Value).ownBlock)) (n := t422.length) (c := co25) ?_).2.2; exact (zRf HO_429002 BK476 (fun _ h_ => h_.1))); (case side4 => exact (Kd.R_reads' HO_429002.out).2.1); rintro e w138 ⟨rfl, hb⟩; refine ⟨_, rfl, ?_⟩; replace HO_429002 := zA (Kd.R_below (zRf HO_429002 BK476 (fun _ h_ => h_.1)) hb); replace HO_437002 := zA (Kd.R_below (zRf HO_437002 BK476 (fun _ h_ => h_.1)) hb); replace HO_446002 := zA (Kd.R_below (zRf HO_446002 BK476 (fun _ h_ => h_.1)) hb); replace HO465 := zA (Kd.R_below (zRf HO465 BK476 (fun _ h_ => h_.1)) hb); replace HO472 := zA (Kd.R_below (zRf HO472 BK476 (fun _ h_ => h_.1)) hb); replace BK411 := zA (blk_below (g := gb411) (o := .cells #[.int .i64 a0_0, .int .i64 a0_1, .slice A0_2 l0_2.length c0_2, .int .i64 a0_3, .int .i64 a0_4] 91 (0, 0)) (zpf BK411 NB411_476) hb); replace BK428 := zA (blk_below (g := gb428) (o := .cells #[.int .i64 t420, .int .i64 t421, .slice Ao25 t422.length co25, .int .i64 t425, .int .i64 t426] 68 (0, 0)) (zpf BK428 NB428_476) hb); replace BK436 := zA (blk_below (g := gb436) (o := .cells #[.int .i64 t429, .int .i64 t430, .slice Ao32 t456.length co32, .int .i64 t434, .int .i64 t435] 68 (0, 0)) (zpf BK436 NB436_476) hb); replace BK445 := zA (blk_below (g := gb445) (o := .cells #[.int .i64 t437, .int .i64 t438, .slice Ao39 t439.length co39, .int .i64 t442, .int .i64 t443] 68 (0, 0)) (zpf BK445 NB445_476) hb); replace BK476 := zA (blk_below (g := gb476) (o := .cells #[.int .i64 t468, .int .i64 t469, .slice Ao126 t470.length co126, .int .i64 t473, .int .i64 t474] 68 (0, 0)) (zpb BK476) hb); replace HB := zA (below_step (by repeat (first | (with_reducible first | exact HB.out | apply below_alloc | apply pw_below_drewN | apply below_drew1 | refine below_set ?_ GE411.out | refine below_set ?_ GE428.out | refine below_set ?_ GE436.out | refine below_set ?_ GE445.out | refine below_set ?_ GE476.out) | exact HB.out)) hb); (try clear hb); (try clear hb2); (try clear hk); (try clear hi)))
       go_meet
       case rel => exact ⟨_, ((t475 != t427)), zi, H', ⟨by have := HJ13.out; have := HJ62.out; first | omega | exact Nat.le_refl _⟩, ⟨by (try simp only [hl437002_62]); (with_reducible repeat (first | apply Kd.R_alloc | apply Kd.R_drewN | apply Kd.R_drew)); exact Kd.R_mono HO_429002.out (fun _ hk => ⟨hk.1.1.1, ⟨hk.1.1.2, hk.2⟩⟩)⟩, ⟨by (try simp only [hl437002_62]); (with_reducible repeat (first | apply Kd.R_alloc | apply Kd.R_drewN | apply Kd.R_drew)); exact Kd.R_mono HO_437002.out (fun _ hk => ⟨hk.1.1.1, ⟨hk.1.1.2, hk.2⟩⟩)⟩, ⟨by (try simp only [hl437002_62]); (with_reducible repeat (first | apply Kd.R_alloc | apply Kd.R_drewN | apply Kd.R_drew)); exact Kd.R_mono HO_446002.out (fun _ hk => ⟨hk.1.1.1, ⟨hk.1.1.2, hk.2⟩⟩)⟩, ⟨by (try simp only [hl437002_62]); (with_reducible repeat (first | apply Kd.R_alloc | apply Kd.R_drewN | apply Kd.R_drew)); exact Kd.R_mono HO472.out (fun _ hk => ⟨hk.1.1.1.2, ⟨hk.1.1.2, hk.1.2⟩⟩)⟩, ⟨by (try simp only [hl437002_62]); (with_reducible repeat (first | refine blk_drewN ?_ _ | refine blk_drew ?_ | refine blk_alloc ?_ _)); exact BK411.out⟩, ⟨by (try simp only [hl437002_62]); (with_reducible repeat (first | refine blk_drewN ?_ _ | refine blk_drew ?_ | refine blk_alloc ?_ _)); exact BK428.out⟩, ⟨by (try simp only [hl437002_62]); (with_reducible repeat (first | refine blk_drewN ?_ _ | refine blk_drew ?_ | refine blk_alloc ?_ _)); exact BK436.out⟩, ⟨by (try simp only [hl437002_62]); (with_reducible repeat (first | refine blk_drewN ?_ _ | refine blk_drew ?_ | refine blk_alloc ?_ _)); exact BK445.out⟩, ⟨by (try simp only [hl437002_62]); (with_reducible repeat (first | refine blk_drewN ?_ _ | refine blk_drew ?_ | refine blk_alloc ?_ _)); exact BK476.out⟩, ⟨by repeat (first | (with_reducible first | exact HB.out | apply below_alloc | apply pw_below_drewN | apply below_drew1 | refine below_set ?_ GE411.out | refine below_set ?_ GE428.out | refine below_set ?_ GE436.out | refine below_set ?_ GE445.out | refine below_set ?_ GE476.out) | exact HB.out)⟩⟩
      replace c128 := Bool.eq_false_iff.mpr c128
      subst c128
      have H1 : (laws_FnExactFlyRest.j2 kj62 t458 true t437 t438 t459 t442 t443) = some r := by rw [if_neg (show ¬ (false = true) by decide)] at H; exact H
      clear H
      have H := H1
      clear H1
      have H' := zA H
      clear H
      have hnb139 := NB476_411.out
      have hnc139 := NB411_476.out
      have hnb140 := NB476_428.out
      have hnc140 := NB428_476.out
      have hnb141 := NB476_436.out
      have hnc141 := NB436_476.out
      have hnb142 := NB476_445.out
      have hnc142 := NB445_476.out
      obtain ⟨hcz143_0, hcz143_1, hcz143_2, hcz143_3, hcz143_4⟩ := zd5 BK476
      obtain ⟨hfz143_0, hfz143_1, hfz143_2, hfz143_3, hfz143_4⟩ := zn5 BK476
      have hnb144 := NB428_411.out
      have hnc144 := NB411_428.out
      have hnb145 := NB428_436.out
      have hnc145 := NB436_428.out
      have hnb146 := NB428_445.out
      have hnc146 := NB445_428.out
      obtain ⟨hcz147_0, hcz147_1, hcz147_2, hcz147_3, hcz147_4⟩ := zd5 BK428
      obtain ⟨hfz147_0, hfz147_1, hfz147_2, hfz147_3, hfz147_4⟩ := zn5 BK428
      go_wp2_with (first | ((with_reducible refine gate_callee (f := 46) rfl ?_); refine zgl (N := some 96) Try.func46 #[.agg #[.int .i64 t468, .int .i64 t469, .slice Ao126 t470.length co126, .int .i64 t473, .int .i64 t474], .agg #[.int .i64 t420, .int .i64 t421, .slice Ao25 t422.length co25, .int .i64 t425, .int .i64 t426]] ?_; (with_reducible refine (laws_eqFlyPath.calls kj62 t468 t469 _ _ t470 t473 t474 t420 t421 _ _ t422 t425 t426 false _ ?side1 ?side2 ?side3 ?side4 A127.out).mono ?_); (case side1 => refine (Kd.R_reads' (e := 132) (base := w.heap.size) (ok := fun k_ => ((((True ∧ some k_ ≠ (.slice Ao25 t422.length co25 : Value).ownBlock) ∧ some k_ ≠ (.slice Ao32 t456.length co32 : Value).ownBlock) ∧ some k_ ≠ (.slice Ao39 t439.length co39 : Value).ownBlock) ∧ some k_ ≠ (.slice Ao118 t463.length co118 : Value).ownBlock)) (n := t470.length) (c := co126) ?_).2.2; exact (zRf HO472 BK476 (fun _ h_ => h_.1))); (case side2 => exact (Kd.R_reads' HO472.out).2.1); (case side3 => refine (Kd.R_reads' (e := 132) (base := w.heap.size) (ok := fun k_ => (((some k_ ≠ (.slice Ao32 t456.length co32 : Value).ownBlock ∧ some k_ ≠ (.slice Ao39 t439.length co39 : Value).ownBlock) ∧ some k_ ≠ (.slice Ao118 t463.length co118 : Value).ownBlock) ∧ some k_ ≠ (.slice Ao126 t470.length co126 : Value).ownBlock)) (n := t422.length) (c := co25) ?_).2.2; exact (zRf HO_429002 BK476 (fun _ h_ => h_.1))); (case side4 => exact (Kd.R_reads' HO_429002.out).2.1); rintro e w148 ⟨rfl, hb⟩; refine ⟨_, rfl, ?_⟩; replace HO_429002 := zA (Kd.R_below (zRf HO_429002 BK476 (fun _ h_ => h_.1)) hb); replace HO_437002 := zA (Kd.R_below (zRf HO_437002 BK476 (fun _ h_ => h_.1)) hb); replace HO_446002 := zA (Kd.R_below (zRf HO_446002 BK476 (fun _ h_ => h_.1)) hb); replace HO465 := zA (Kd.R_below (zRf HO465 BK476 (fun _ h_ => h_.1)) hb); replace HO472 := zA (Kd.R_below (zRf HO472 BK476 (fun _ h_ => h_.1)) hb); replace BK411 := zA (blk_below (g := gb411) (o := .cells #[.int .i64 a0_0, .int .i64 a0_1, .slice A0_2 l0_2.length c0_2, .int .i64 a0_3, .int .i64 a0_4] 91 (0, 0)) (zpf BK411 NB411_476) hb); replace BK428 := zA (blk_below (g := gb428) (o := .cells #[.int .i64 t420, .int .i64 t421, .slice Ao25 t422.length co25, .int .i64 t425, .int .i64 t426] 68 (0, 0)) (zpf BK428 NB428_476) hb); replace BK436 := zA (blk_below (g := gb436) (o := .cells #[.int .i64 t429, .int .i64 t430, .slice Ao32 t456.length co32, .int .i64 t434, .int .i64 t435] 68 (0, 0)) (zpf BK436 NB436_476) hb); replace BK445 := zA (blk_below (g := gb445) (o := .cells #[.int .i64 t437, .int .i64 t438, .slice Ao39 t439.length co39, .int .i64 t442, .int .i64 t443] 68 (0, 0)) (zpf BK445 NB445_476) hb); replace BK476 := zA (blk_below (g := gb476) (o := .cells #[.int .i64 t468, .int .i64 t469, .slice Ao126 t470.length co126, .int .i64 t473, .int .i64 t474] 68 (0, 0)) (zpb BK476) hb); replace HB := zA (below_step (by repeat (first | (with_reducible first | exact HB.out | apply below_alloc | apply pw_below_drewN | apply below_drew1 | refine below_set ?_ GE411.out | refine below_set ?_ GE428.out | refine below_set ?_ GE436.out | refine below_set ?_ GE445.out | refine below_set ?_ GE476.out) | exact HB.out)) hb); (try clear hb); (try clear hb2); (try clear hk); (try clear hi)))
      go_meet
      case rel => exact ⟨_, (true), zi, H', ⟨by have := HJ13.out; have := HJ62.out; first | omega | exact Nat.le_refl _⟩, ⟨by (try simp only [hl437002_62]); (with_reducible repeat (first | apply Kd.R_alloc | apply Kd.R_drewN | apply Kd.R_drew)); exact Kd.R_mono HO_429002.out (fun _ hk => ⟨hk.1.1.1, ⟨hk.1.1.2, hk.2⟩⟩)⟩, ⟨by (try simp only [hl437002_62]); (with_reducible repeat (first | apply Kd.R_alloc | apply Kd.R_drewN | apply Kd.R_drew)); exact Kd.R_mono HO_437002.out (fun _ hk => ⟨hk.1.1.1, ⟨hk.1.1.2, hk.2⟩⟩)⟩, ⟨by (try simp only [hl437002_62]); (with_reducible repeat (first | apply Kd.R_alloc | apply Kd.R_drewN | apply Kd.R_drew)); exact Kd.R_mono HO_446002.out (fun _ hk => ⟨hk.1.1.1, ⟨hk.1.1.2, hk.2⟩⟩)⟩, ⟨by (try simp only [hl437002_62]); (with_reducible repeat (first | apply Kd.R_alloc | apply Kd.R_drewN | apply Kd.R_drew)); exact Kd.R_mono HO472.out (fun _ hk => ⟨hk.1.1.1.2, ⟨hk.1.1.2, hk.1.2⟩⟩)⟩, ⟨by (try simp only [hl437002_62]); (with_reducible repeat (first | refine blk_drewN ?_ _ | refine blk_drew ?_ | refine blk_alloc ?_ _)); exact BK411.out⟩, ⟨by (try simp only [hl437002_62]); (with_reducible repeat (first | refine blk_drewN ?_ _ | refine blk_drew ?_ | refine blk_alloc ?_ _)); exact BK428.out⟩, ⟨by (try simp only [hl437002_62]); (with_reducible repeat (first | refine blk_drewN ?_ _ | refine blk_drew ?_ | refine blk_alloc ?_ _)); exact BK436.out⟩, ⟨by (try simp only [hl437002_62]); (with_reducible repeat (first | refine blk_drewN ?_ _ | refine blk_drew ?_ | refine blk_alloc ?_ _)); exact BK445.out⟩, ⟨by (try simp only [hl437002_62]); (with_reducible repeat (first | refine blk_drewN ?_ _ | refine blk_drew ?_ | refine blk_alloc ?_ _)); exact BK476.out⟩, ⟨by repeat (first | (with_reducible first | exact HB.out | apply below_alloc | apply pw_below_drewN | apply below_drew1 | refine below_set ?_ GE411.out | refine below_set ?_ GE428.out | refine below_set ?_ GE436.out | refine below_set ?_ GE445.out | refine below_set ?_ GE476.out) | exact HB.out)⟩⟩
     case rest =>
      clear HC106
      try clear c1
      try clear c2
      try clear p2
      try clear c3
      try clear c4
      try clear c5
      try clear c6
      try clear c6b0
      try clear c7
      try clear c8
      try clear c9
      try clear c10
      try clear c11
      try clear c12
      try clear c13
      try clear c14
      try clear c23
      try clear c29
      try clear c30
      try clear c35
      try clear c36
      try clear c37
      try clear c41
      try clear c42
      try clear c43
      try clear c44
      try clear c46
      try clear c47
      try clear c48
      try clear c50
      try clear c51
      try clear c52
      try clear c54
      try clear c55
      try clear c58
      try clear c61
      try clear c62
      try clear c64
      try clear c68
      try clear c69
      try clear c70
      try clear c71
      try clear c72
      try clear c73
      try clear c73b0
      try clear c75
      try clear c76
      try clear c77
      try clear c78
      try clear c80
      try clear c81
      try clear c84
      try clear c85
      try clear c86
      try clear c88
      try clear c89
      try clear c92
      try clear c95
      try clear c95b0
      try clear c96
      try clear c97
      try clear c98
      try clear c103
      try clear c103b0
      try clear c103b1
      try clear c107
      try clear c108
      try clear c109
      try clear c114
      try clear c115
      try clear c121
      try clear c122
      try clear c123
      try clear c124
      try clear c128
      try clear c129
      try clear c130
      try clear c131
      try clear c132
      try clear c134
      try clear c135
      try clear c136
      try clear c139
      try clear c140
      try clear c141
      try clear c142
      try clear c144
      try clear c145
      try clear c146
      try clear hcz101_0 hcz101_1 hcz101_2 hcz101_3 hcz101_4
      try clear hcz110_0 hcz110_1 hcz110_2 hcz110_3 hcz110_4
      try clear hcz112_0 hcz112_1 hcz112_2 hcz112_3 hcz112_4
      try clear hcz116_0 hcz116_1 hcz116_2 hcz116_3 hcz116_4
      try clear hcz125_0 hcz125_1 hcz125_2 hcz125_3 hcz125_4
      try clear hcz133_0 hcz133_1 hcz133_2 hcz133_3 hcz133_4
      try clear hcz137_0 hcz137_1 hcz137_2 hcz137_3 hcz137_4
      try clear hcz143_0 hcz143_1 hcz143_2 hcz143_3 hcz143_4
      try clear hcz147_0 hcz147_1 hcz147_2 hcz147_3 hcz147_4
      try clear hcz16_0 hcz16_1 hcz16_2 hcz16_3 hcz16_4
      try clear hcz18_0 hcz18_1 hcz18_2 hcz18_3 hcz18_4
      try clear hcz24_0 hcz24_1 hcz24_2 hcz24_3 hcz24_4
      try clear hcz26_0 hcz26_1 hcz26_2 hcz26_3 hcz26_4
      try clear hcz31_0 hcz31_1 hcz31_2 hcz31_3 hcz31_4
      try clear hcz38_0 hcz38_1 hcz38_2 hcz38_3 hcz38_4
      try clear hcz45_0 hcz45_1 hcz45_2 hcz45_3 hcz45_4
      try clear hcz48_0 hcz48_1 hcz48_2 hcz48_3 hcz48_4
      try clear hcz53_0 hcz53_1 hcz53_2 hcz53_3 hcz53_4
      try clear hcz56_0 hcz56_1 hcz56_2 hcz56_3 hcz56_4
      try clear hcz71_0 hcz71_1 hcz71_2 hcz71_3 hcz71_4
      try clear hcz79_0 hcz79_1 hcz79_2 hcz79_3 hcz79_4
      try clear hcz82_0 hcz82_1 hcz82_2 hcz82_3 hcz82_4
      try clear hcz87_0 hcz87_1 hcz87_2 hcz87_3 hcz87_4
      try clear hcz8_0 hcz8_1 hcz8_2 hcz8_3 hcz8_4
      try clear hcz90_0 hcz90_1 hcz90_2 hcz90_3 hcz90_4
      try clear hcz99_0 hcz99_1 hcz99_2 hcz99_3 hcz99_4
      try clear hfz101_0 hfz101_1 hfz101_2 hfz101_3 hfz101_4
      try clear hfz110_0 hfz110_1 hfz110_2 hfz110_3 hfz110_4
      try clear hfz112_0 hfz112_1 hfz112_2 hfz112_3 hfz112_4
      try clear hfz116_0 hfz116_1 hfz116_2 hfz116_3 hfz116_4
      try clear hfz125_0 hfz125_1 hfz125_2 hfz125_3 hfz125_4
      try clear hfz133_0 hfz133_1 hfz133_2 hfz133_3 hfz133_4
      try clear hfz137_0 hfz137_1 hfz137_2 hfz137_3 hfz137_4
      try clear hfz143_0 hfz143_1 hfz143_2 hfz143_3 hfz143_4
      try clear hfz147_0 hfz147_1 hfz147_2 hfz147_3 hfz147_4
      try clear hfz16_0 hfz16_1 hfz16_2 hfz16_3 hfz16_4
      try clear hfz18_0 hfz18_1 hfz18_2 hfz18_3 hfz18_4
      try clear hfz24_0 hfz24_1 hfz24_2 hfz24_3 hfz24_4
      try clear hfz26_0 hfz26_1 hfz26_2 hfz26_3 hfz26_4
      try clear hfz31_0 hfz31_1 hfz31_2 hfz31_3 hfz31_4
      try clear hfz38_0 hfz38_1 hfz38_2 hfz38_3 hfz38_4
      try clear hfz45_0 hfz45_1 hfz45_2 hfz45_3 hfz45_4
      try clear hfz48_0 hfz48_1 hfz48_2 hfz48_3 hfz48_4
      try clear hfz53_0 hfz53_1 hfz53_2 hfz53_3 hfz53_4
      try clear hfz56_0 hfz56_1 hfz56_2 hfz56_3 hfz56_4
      try clear hfz71_0 hfz71_1 hfz71_2 hfz71_3 hfz71_4
      try clear hfz79_0 hfz79_1 hfz79_2 hfz79_3 hfz79_4
      try clear hfz82_0 hfz82_1 hfz82_2 hfz82_3 hfz82_4
      try clear hfz87_0 hfz87_1 hfz87_2 hfz87_3 hfz87_4
      try clear hfz8_0 hfz8_1 hfz8_2 hfz8_3 hfz8_4
      try clear hfz90_0 hfz90_1 hfz90_2 hfz90_3 hfz90_4
      try clear hfz99_0 hfz99_1 hfz99_2 hfz99_3 hfz99_4
      try clear p2
      obtain ⟨kq, x102_105, rfl, HA, HJ105, HO_429002, HO_437002, HO_446002, HO_477002, BK411, BK428, BK436, BK445, BK476, HB⟩ := hcut
      have hl446002_105 := (Kd.R_reads' HO_446002.out).1
      rw [hl446002_105] at HO_446002
      (try simp only [hl446002_105])
      (try simp only [hl446002_105] at BK411)
      (try simp only [hl446002_105] at BK428)
      (try simp only [hl446002_105] at BK436)
      (try simp only [hl446002_105] at BK445)
      (try simp only [hl446002_105] at BK476)
      (try simp only [hl446002_105] at HO_429002)
      (try simp only [hl446002_105] at HO_437002)
      (try simp only [hl446002_105] at HO_477002)
      cases kq with
      | zero => exact absurd HA.out (by simp [laws_FnExactFlyRest.j2])
      | succ kj105 =>
       have H := HA.out
       clear HA
       simp only [laws_FnExactFlyRest.j2] at H
       by_cases c149 : x102_105 = true
       ·subst c149
        have H1 : (some false) = some r := by rw [if_pos rfl] at H; exact H
        clear H
        have H := H1
        clear H1
        obtain rfl := Option.some.inj H
        go_wp2
        go_ret
        exact ⟨ze, by repeat (first | (with_reducible first | exact HB.out | apply below_alloc | apply pw_below_drewN | apply below_drew1 | refine below_set ?_ GE411.out | refine below_set ?_ GE428.out | refine below_set ?_ GE436.out | refine below_set ?_ GE445.out | refine below_set ?_ GE476.out) | exact HB.out)⟩
       replace c149 := Bool.eq_false_iff.mpr c149
       subst c149
       have H1 : ((laws_heldFlyPath.f kj105 t437 t438 t459 t442 t443 1).bind fun t478 => (if t478 < 0 then (some false) else (if t478 = t458 then (some true) else (some false)))) = some r := by rw [if_neg (show ¬ (false = true) by decide)] at H; exact H
       clear H
       have H := H1
       clear H1
       replace H := zbd H; obtain ⟨t478, A150, H⟩ := H
       by_cases c151 : t478 < 0
       ·rw [if_pos c151] at H
        have c151b0 : decide (t478 < 0) = true := decide_eq_true c151
        clear c151
        obtain rfl := Option.some.inj H
        have hnb152 := NB445_411.out
        have hnc152 := NB411_445.out
        have hnb153 := NB445_428.out
        have hnc153 := NB428_445.out
        have hnb154 := NB445_436.out
        have hnc154 := NB436_445.out
        have hnb155 := NB445_476.out
        have hnc155 := NB476_445.out
        obtain ⟨hcz156_0, hcz156_1, hcz156_2, hcz156_3, hcz156_4⟩ := zd5 BK445
        obtain ⟨hfz156_0, hfz156_1, hfz156_2, hfz156_3, hfz156_4⟩ := zn5 BK445
        go_wp2_with (first | ((with_reducible refine gate_callee (f := 48) rfl ?_); refine zgl (N := some 105) Try.func48 #[.agg #[.int .i64 t437, .int .i64 t438, .slice Ao39 t459.length co39, .int .i64 t442, .int .i64 t443], .int .i64 1] ?_; (with_reducible refine (laws_heldFlyPath.calls kj105 t437 t438 _ _ t459 t442 t443 1 t478 _ ?side1 ?side2 A150.out).mono ?_); (case side1 => repeat (first | exact (Kd.R_reads' HO_446002.out).2.2 | (with_reducible refine Kd.C_alloc ?_ _) | (with_reducible refine Kd.C_drewN ?_ _) | (with_reducible refine Kd.C_drew ?_))); (case side2 => exact (Kd.R_reads' HO_446002.out).2.1); rintro e w157 ⟨rfl, hb⟩; refine ⟨_, rfl, ?_⟩; replace HO_429002 := zA (Kd.R_below (zr HO_429002) hb); replace HO_437002 := zA (Kd.R_below (zr HO_437002) hb); replace HO_446002 := zA (Kd.R_below (zr HO_446002) hb); replace HO_477002 := zA (Kd.R_below (zr HO_477002) hb); replace BK411 := zb BK411 hb; replace BK428 := zb BK428 hb; replace BK436 := zb BK436 hb; replace BK445 := zb BK445 hb; replace BK476 := zb BK476 hb; replace HB := zA (below_step (by repeat (first | (with_reducible first | exact HB.out | apply below_alloc | apply pw_below_drewN | apply below_drew1 | refine below_set ?_ GE411.out | refine below_set ?_ GE428.out | refine below_set ?_ GE436.out | refine below_set ?_ GE445.out | refine below_set ?_ GE476.out) | exact HB.out)) hb); (try clear hb); (try clear hb2); (try clear hk); (try clear hi)))
        go_ret
        exact ⟨ze, by repeat (first | (with_reducible first | exact HB.out | apply below_alloc | apply pw_below_drewN | apply below_drew1 | refine below_set ?_ GE411.out | refine below_set ?_ GE428.out | refine below_set ?_ GE436.out | refine below_set ?_ GE445.out | refine below_set ?_ GE476.out) | exact HB.out)⟩
       rw [if_neg c151] at H
       have c151b0 : decide (t478 < 0) = false := decide_eq_false c151
       clear c151
       by_cases c158 : t478 = t458
       rotate_left
       ·rw [if_neg c158] at H
        have c158b0 : (t478 == t458) = false := beq_eq_false_iff_ne.mpr c158
        have c158b1 : (t478 != t458) = true := bne_iff_ne.mpr c158
        obtain rfl := Option.some.inj H
        have hnb165 := NB445_411.out
        have hnc165 := NB411_445.out
        have hnb166 := NB445_428.out
        have hnc166 := NB428_445.out
        have hnb167 := NB445_436.out
        have hnc167 := NB436_445.out
        have hnb168 := NB445_476.out
        have hnc168 := NB476_445.out
        obtain ⟨hcz169_0, hcz169_1, hcz169_2, hcz169_3, hcz169_4⟩ := zd5 BK445
        obtain ⟨hfz169_0, hfz169_1, hfz169_2, hfz169_3, hfz169_4⟩ := zn5 BK445
        go_wp2_with (first | ((with_reducible refine gate_callee (f := 48) rfl ?_); refine zgl (N := some 105) Try.func48 #[.agg #[.int .i64 t437, .int .i64 t438, .slice Ao39 t459.length co39, .int .i64 t442, .int .i64 t443], .int .i64 1] ?_; (with_reducible refine (laws_heldFlyPath.calls kj105 t437 t438 _ _ t459 t442 t443 1 t478 _ ?side1 ?side2 A150.out).mono ?_); (case side1 => repeat (first | exact (Kd.R_reads' HO_446002.out).2.2 | (with_reducible refine Kd.C_alloc ?_ _) | (with_reducible refine Kd.C_drewN ?_ _) | (with_reducible refine Kd.C_drew ?_))); (case side2 => exact (Kd.R_reads' HO_446002.out).2.1); rintro e w170 ⟨rfl, hb⟩; refine ⟨_, rfl, ?_⟩; replace HO_429002 := zA (Kd.R_below (zr HO_429002) hb); replace HO_437002 := zA (Kd.R_below (zr HO_437002) hb); replace HO_446002 := zA (Kd.R_below (zr HO_446002) hb); replace HO_477002 := zA (Kd.R_below (zr HO_477002) hb); replace BK411 := zb BK411 hb; replace BK428 := zb BK428 hb; replace BK436 := zb BK436 hb; replace BK445 := zb BK445 hb; replace BK476 := zb BK476 hb; replace HB := zA (below_step (by repeat (first | (with_reducible first | exact HB.out | apply below_alloc | apply pw_below_drewN | apply below_drew1 | refine below_set ?_ GE411.out | refine below_set ?_ GE428.out | refine below_set ?_ GE436.out | refine below_set ?_ GE445.out | refine below_set ?_ GE476.out) | exact HB.out)) hb); (try clear hb); (try clear hb2); (try clear hk); (try clear hi)))
        go_ret
        exact ⟨ze, by repeat (first | (with_reducible first | exact HB.out | apply below_alloc | apply pw_below_drewN | apply below_drew1 | refine below_set ?_ GE411.out | refine below_set ?_ GE428.out | refine below_set ?_ GE436.out | refine below_set ?_ GE445.out | refine below_set ?_ GE476.out) | exact HB.out)⟩
       rw [if_pos c158] at H
       have c158b0 : (t478 == t458) = true := beq_iff_eq.mpr c158
       have c158b1 : (t478 != t458) = false := bne_eq_false_iff_eq.mpr c158
       clear c158
       obtain rfl := Option.some.inj H
       have hnb159 := NB445_411.out
       have hnc159 := NB411_445.out
       have hnb160 := NB445_428.out
       have hnc160 := NB428_445.out
       have hnb161 := NB445_436.out
       have hnc161 := NB436_445.out
       have hnb162 := NB445_476.out
       have hnc162 := NB476_445.out
       obtain ⟨hcz163_0, hcz163_1, hcz163_2, hcz163_3, hcz163_4⟩ := zd5 BK445
       obtain ⟨hfz163_0, hfz163_1, hfz163_2, hfz163_3, hfz163_4⟩ := zn5 BK445
       go_wp2_with (first | ((with_reducible refine gate_callee (f := 48) rfl ?_); refine zgl (N := some 105) Try.func48 #[.agg #[.int .i64 t437, .int .i64 t438, .slice Ao39 t459.length co39, .int .i64 t442, .int .i64 t443], .int .i64 1] ?_; (with_reducible refine (laws_heldFlyPath.calls kj105 t437 t438 _ _ t459 t442 t443 1 t478 _ ?side1 ?side2 A150.out).mono ?_); (case side1 => repeat (first | exact (Kd.R_reads' HO_446002.out).2.2 | (with_reducible refine Kd.C_alloc ?_ _) | (with_reducible refine Kd.C_drewN ?_ _) | (with_reducible refine Kd.C_drew ?_))); (case side2 => exact (Kd.R_reads' HO_446002.out).2.1); rintro e w164 ⟨rfl, hb⟩; refine ⟨_, rfl, ?_⟩; replace HO_429002 := zA (Kd.R_below (zr HO_429002) hb); replace HO_437002 := zA (Kd.R_below (zr HO_437002) hb); replace HO_446002 := zA (Kd.R_below (zr HO_446002) hb); replace HO_477002 := zA (Kd.R_below (zr HO_477002) hb); replace BK411 := zb BK411 hb; replace BK428 := zb BK428 hb; replace BK436 := zb BK436 hb; replace BK445 := zb BK445 hb; replace BK476 := zb BK476 hb; replace HB := zA (below_step (by repeat (first | (with_reducible first | exact HB.out | apply below_alloc | apply pw_below_drewN | apply below_drew1 | refine below_set ?_ GE411.out | refine below_set ?_ GE428.out | refine below_set ?_ GE436.out | refine below_set ?_ GE445.out | refine below_set ?_ GE476.out) | exact HB.out)) hb); (try clear hb); (try clear hb2); (try clear hk); (try clear hi)))
       go_ret
       exact ⟨ze, by repeat (first | (with_reducible first | exact HB.out | apply below_alloc | apply pw_below_drewN | apply below_drew1 | refine below_set ?_ GE411.out | refine below_set ?_ GE428.out | refine below_set ?_ GE436.out | refine below_set ?_ GE445.out | refine below_set ?_ GE476.out) | exact HB.out)⟩
end Go.Proofs.Ytbmplfpnhjhoiaa.QFnExactFlyRest
