/- The walk of what the law FnExactFlyGo reaches: laid by a program of this session (ownprint.py). -/
import Derived.Test.YtidenmcoilmbcaaQFnExactFlyGox0
import Derived.Test.YtidenmcoilmbcaaQFnExactFlyGox1
import Derived.Test.YtidenmcoilmbcaaQFnExactFlyGox9
import Derived.Test.YtidenmcoilmbcaaQFnExactFlyGox10
import Derived.Test.YtidenmcoilmbcaaQFnExactFlyGox16
import Derived.Test.YtidenmcoilmbcaaQFnExactFlyGox17
import Derived.Test.YtidenmcoilmbcaaQFnExactFlyGox18
namespace Go.Proofs.Ytidenmcoilmbcaa.QFnExactFlyGo
open Go.RowKit Go.Proofs.YtidenmcoilmbcaaW.PrintWords Go.Proofs.YtidenmcoilmbcaaW.PrintLast Go.Proofs.YtidenmcoilmbcaaW.PrintMore Go.Proofs.Ytidenmcoilmbcaa.Z
attribute [local go_sem] max2_int min2_int max_two min_two max_three min_three max_four min_four zdn   -- for this text's walks alone
set_option linter.unusedVariables false
set_option linter.unusedSimpArgs false
mutual
def laws_FnExactFlyGo.j0 : Nat → List Int → List Int → List Int → Bool → List Int → List Int → List Int → Bool → Bool → Int → Int → List (S104) → Int → Int → Int → Int → List (S88) → Int → Int → Option (Bool)
 | 0, _, _, _, _, _, _, _, _, _, _, _, _, _, _, _, _, _, _, _ => none
 | k + 1, x1, x2, x8, x9, x11, x12, x13, x14, x62, x391000, x391001, x391002, x391003, x391004, x417000, x417001, x417002, x417003, x417004 => if x62 = true then (some false) else ((laws_toFlyPath.f k x391000 x391001 x391002 x391003 x391004).bind fun bt428 => ((laws_eqFlyPath.f k x417000 x417001 x417002 x417003 x417004 bt428.1 bt428.2.1 bt428.2.2.1 bt428.2.2.2.1 bt428.2.2.2.2).bind fun t435 => (if t435 = true then ((laws_toIntS.f k x1).bind fun t436 => ((laws_eqIntS.f k x11 t436).bind fun t439 => (if t439 = true then ((laws_toIntS.f k x2).bind fun t440 => ((laws_eqIntS.f k x12 t440).bind fun t443 => (if t443 = true then ((laws_markFlyPath.f k x417000 x417001 x417002 x417003 x417004 1).bind fun bt444 => ((laws_markIntS.f k x11 bt444.1).bind fun bt446 => ((laws_markIntS.f k x12 bt446.1).bind fun bt448 => (if bt448.1 < 0 then (laws_FnExactFlyGo.j1 k x1 x2 x8 x9 x13 true x391000 x391001 x391002 x391003 x391004) else ((laws_eqIntS.f k x13 x8).bind fun t450 => (if t450 = true then (laws_FnExactFlyGo.j1 k x1 x2 x8 x9 x13 (x14 != x9) x391000 x391001 x391002 x391003 x391004) else (laws_FnExactFlyGo.j1 k x1 x2 x8 x9 x13 true x391000 x391001 x391002 x391003 x391004))))))) else (some false)))) else (some false)))) else (some false))))
def laws_FnExactFlyGo.j1 : Nat → List Int → List Int → List Int → Bool → List Int → Bool → Int → Int → List (S104) → Int → Int → Option (Bool)
 | 0, _, _, _, _, _, _, _, _, _, _, _ => none
 | k + 1, x1, x2, x8, x9, x13, x99, x391000, x391001, x391002, x391003, x391004 => if x99 = true then (some false) else ((laws_markIntS.f k x13 1).bind fun bt451 => ((laws_heldIntS.f k bt451.2 1).bind fun t453 => (if t453 < 0 then (some false) else (if t453 = bt451.1 then ((laws_toFlyPath.f k x391000 x391001 x391002 x391003 x391004).bind fun bt454 => ((laws_toIntS.f k x1).bind fun t461 => ((laws_toIntS.f k x2).bind fun t464 => ((impl_FlyGo.f k bt454.1 bt454.2.1 bt454.2.2.1 bt454.2.2.2.1 bt454.2.2.2.2 t461 t464).bind fun bt467 => ((laws_eqIntS.f k bt467.1 x8).bind fun t471 => (if t471 = true then (laws_FnExactFlyGo.j2 k bt451.2 bt451.1 (bt467.2 != x9)) else (laws_FnExactFlyGo.j2 k bt451.2 bt451.1 true))))))) else (some false)))))
def laws_FnExactFlyGo.j2 : Nat → List Int → Int → Bool → Option (Bool)
 | 0, _, _, _ => none
 | k + 1, x13, x16, x129 => if x129 = true then (some false) else ((laws_heldIntS.f k x13 1).bind fun t472 => (if t472 < 0 then (some false) else (if t472 = x16 then (some true) else (some false))))
end
def laws_FnExactFlyGo.f (k : Nat) (a0_0 : Int) (a0_1 : Int) (l0_2 : List (S104)) (a0_3 : Int) (a0_4 : Int) (l1 : List Int) (l2 : List Int) : Option (Bool) := if (l1.length : Int) > 1048576 then (some true) else (if (l2.length : Int) > 1048576 then (some true) else ((laws_szFlyPath.f a0_0 a0_1 l0_2 a0_3 a0_4 1048576).bind fun t391 => (if t391 < 0 then (some true) else ((laws_toFlyPath.f k a0_0 a0_1 l0_2 a0_3 a0_4).bind fun bt392 => ((laws_toIntS.f k l1).bind fun t399 => ((laws_toIntS.f k l2).bind fun t402 => ((spec_FlyGo.f k bt392.1 bt392.2.1 bt392.2.2.1 bt392.2.2.2.1 bt392.2.2.2.2 t399 t402).bind fun bt405 => ((laws_toFlyPath.f k a0_0 a0_1 l0_2 a0_3 a0_4).bind fun bt409 => ((laws_toIntS.f k l1).bind fun t417 => ((laws_toIntS.f k l2).bind fun t420 => ((impl_FlyGo.f k bt409.1 bt409.2.1 bt409.2.2.1 bt409.2.2.2.1 bt409.2.2.2.2 t417 t420).bind fun bt423 => ((laws_eqIntS.f k bt423.1 bt405.1).bind fun t427 => (if t427 = true then (laws_FnExactFlyGo.j0 k l1 l2 bt405.1 bt405.2 t417 t420 bt423.1 bt423.2 (bt423.2 != bt405.2) a0_0 a0_1 l0_2 a0_3 a0_4 bt409.1 bt409.2.1 bt409.2.2.1 bt409.2.2.2.1 bt409.2.2.2.2) else (laws_FnExactFlyGo.j0 k l1 l2 bt405.1 bt405.2 t417 t420 bt423.1 bt423.2 true a0_0 a0_1 l0_2 a0_3 a0_4 bt409.1 bt409.2.1 bt409.2.2.1 bt409.2.2.2.1 bt409.2.2.2.2))))))))))))))
set_option maxHeartbeats 8000000 in
set_option maxRecDepth 100000 in
theorem laws_FnExactFlyGo.calls (k : Nat) (a0_0 : Int) (a0_1 : Int) (A0_2 : Option Addr) (c0_2 : Nat) (l0_2 : List (S104)) (a0_3 : Int) (a0_4 : Int) (A1 : Option Addr) (c1 : Nat) (l1 : List Int) (A2 : Option Addr) (c2 : Nat) (l2 : List Int) (r : Bool) (w : World) (hr0_2 : Kd.C k104 w A0_2 l0_2.length l0_2) (hc0_2 : l0_2.length ≤ c0_2) (hr1 : Kd.C (Kd.int .i64) w A1 l1.length l1) (hc1 : l1.length ≤ c1) (hr2 : Kd.C (Kd.int .i64) w A2 l2.length l2) (hc2 : l2.length ≤ c2) (h : laws_FnExactFlyGo.f k a0_0 a0_1 l0_2 a0_3 a0_4 l1 l2 = some r) :
 Calls Try.prog 3 #[.agg #[.int .i64 a0_0, .int .i64 a0_1, .slice A0_2 l0_2.length c0_2, .int .i64 a0_3, .int .i64 a0_4], .slice A1 l1.length c1, .slice A2 l2.length c2] w fun e w' => e = .returned (.bool r) ∧ Below w.heap.size w w' := by
 have hu26 := Try.underlying26
 have hu34 := Try.underlying34
 have HR0_2 := zA hr0_2
 have HC0_2 := zA hc0_2
 clear hr0_2 hc0_2
 have HR1 := zA hr1
 have HC1 := zA hc1
 clear hr1 hc1
 have HR2 := zA hr2
 have HC2 := zA hc2
 clear hr2 hc2
 have HB := zA (Below.refl w.heap.size w)
 have H : (if (l1.length : Int) > 1048576 then (some true) else (if (l2.length : Int) > 1048576 then (some true) else ((laws_szFlyPath.f a0_0 a0_1 l0_2 a0_3 a0_4 1048576).bind fun t391 => (if t391 < 0 then (some true) else ((laws_toFlyPath.f k a0_0 a0_1 l0_2 a0_3 a0_4).bind fun bt392 => ((laws_toIntS.f k l1).bind fun t399 => ((laws_toIntS.f k l2).bind fun t402 => ((spec_FlyGo.f k bt392.1 bt392.2.1 bt392.2.2.1 bt392.2.2.2.1 bt392.2.2.2.2 t399 t402).bind fun bt405 => ((laws_toFlyPath.f k a0_0 a0_1 l0_2 a0_3 a0_4).bind fun bt409 => ((laws_toIntS.f k l1).bind fun t417 => ((laws_toIntS.f k l2).bind fun t420 => ((impl_FlyGo.f k bt409.1 bt409.2.1 bt409.2.2.1 bt409.2.2.2.1 bt409.2.2.2.2 t417 t420).bind fun bt423 => ((laws_eqIntS.f k bt423.1 bt405.1).bind fun t427 => (if t427 = true then (laws_FnExactFlyGo.j0 k l1 l2 bt405.1 bt405.2 t417 t420 bt423.1 bt423.2 (bt423.2 != bt405.2) a0_0 a0_1 l0_2 a0_3 a0_4 bt409.1 bt409.2.1 bt409.2.2.1 bt409.2.2.2.1 bt409.2.2.2.2) else (laws_FnExactFlyGo.j0 k l1 l2 bt405.1 bt405.2 t417 t420 bt423.1 bt423.2 true a0_0 a0_1 l0_2 a0_3 a0_4 bt409.1 bt409.2.1 bt409.2.2.1 bt409.2.2.2.1 bt409.2.2.2.2))))))))))))))) = some r := h
 clear h
 by_cases c4 : (l1.length : Int) > 1048576
 ·rw [if_pos c4] at H
  have c4b0 : decide (1048576 < (l1.length : Int)) = true := decide_eq_true c4
  have c4b1 : decide (1048576 < l1.length) = true := decide_eq_true (by omega)
  clear c4
  obtain rfl := Option.some.inj H
  go_enter Try.func3, Try.ntmps3
  go_wp2_with (first | ((with_reducible refine gate_dst (N := 3) rfl ?_); refine zbx 3 #[.int .i64 a0_0, .int .i64 a0_1, .slice A0_2 l0_2.length c0_2, .int .i64 a0_3, .int .i64 a0_4] 26 ?_; intro gb390 hg w5 hbox hb; have BK390 := zA hbox; have GW390 := zgs hg (zs0 HB); have GE390 := zgs hg (zs0 HB); replace HB := zE (zs0 HB) hb; clear hb hbox hg))
  go_ret
  exact ⟨ze, zs1 HB GE390⟩
 rw [if_neg c4] at H
 have c4b0 : decide (1048576 < (l1.length : Int)) = false := decide_eq_false c4
 have c4b1 : decide (1048576 < l1.length) = false := decide_eq_false (by omega)
 clear c4
 by_cases c6 : (l2.length : Int) > 1048576
 ·rw [if_pos c6] at H
  have c6b0 : decide (1048576 < (l2.length : Int)) = true := decide_eq_true c6
  have c6b1 : decide (1048576 < l2.length) = true := decide_eq_true (by omega)
  clear c6
  obtain rfl := Option.some.inj H
  go_enter Try.func3, Try.ntmps3
  go_wp2_with (first | ((with_reducible refine gate_dst (N := 3) rfl ?_); refine zbx 3 #[.int .i64 a0_0, .int .i64 a0_1, .slice A0_2 l0_2.length c0_2, .int .i64 a0_3, .int .i64 a0_4] 26 ?_; intro gb390 hg w7 hbox hb; have BK390 := zA hbox; have GW390 := zgs hg (zs0 HB); have GE390 := zgs hg (zs0 HB); replace HB := zE (zs0 HB) hb; clear hb hbox hg))
  go_ret
  exact ⟨ze, zs1 HB GE390⟩
 rw [if_neg c6] at H
 have c6b0 : decide (1048576 < (l2.length : Int)) = false := decide_eq_false c6
 have c6b1 : decide (1048576 < l2.length) = false := decide_eq_false (by omega)
 clear c6
 replace H := zbd H; obtain ⟨t391, A8, H⟩ := H
 by_cases c9 : t391 < 0
 ·rw [if_pos c9] at H
  have c9b0 : decide (t391 < 0) = true := decide_eq_true c9
  clear c9
  obtain rfl := Option.some.inj H
  go_enter Try.func3, Try.ntmps3
  go_wp2_with (first | ((with_reducible refine gate_dst (N := 3) rfl ?_); refine zbx 3 #[.int .i64 a0_0, .int .i64 a0_1, .slice A0_2 l0_2.length c0_2, .int .i64 a0_3, .int .i64 a0_4] 26 ?_; intro gb390 hg w10 hbox hb; have BK390 := zA hbox; have GW390 := zgs hg (zs0 HB); have GE390 := zgs hg (zs0 HB); replace HB := zE (zs0 HB) hb; clear hb hbox hg; obtain ⟨hcz11_0, hcz11_1, hcz11_2, hcz11_3, hcz11_4⟩ := zd5 BK390; obtain ⟨hfz11_0, hfz11_1, hfz11_2, hfz11_3, hfz11_4⟩ := zn5 BK390) | ((with_reducible refine gate_callee (f := 15) rfl ?_); refine zgl (N := some 28) Try.func15 #[.agg #[.int .i64 a0_0, .int .i64 a0_1, .slice A0_2 l0_2.length c0_2, .int .i64 a0_3, .int .i64 a0_4], .int .i64 1048576] ?_; (with_reducible refine (laws_szFlyPath.calls a0_0 a0_1 _ _ l0_2 a0_3 a0_4 1048576 t391 _ ?side1 ?side2 A8.out).mono ?_); (case side1 => exact zC HR0_2 HB); (case side2 => exact HC0_2.out); rintro e w12 ⟨rfl, hb⟩; refine ⟨_, rfl, ?_⟩; replace BK390 := zb BK390 hb; replace HB := zE (zs1 HB GE390) hb; (try clear hb); (try clear hb2); (try clear hk); (try clear hi)))
  go_ret
  exact ⟨ze, zs1 HB GE390⟩
 rw [if_neg c9] at H
 have c9b0 : decide (t391 < 0) = false := decide_eq_false c9
 clear c9
 replace H := Option.bind_eq_some_iff.mp H
 obtain ⟨⟨t392, t393, t394, t397, t398⟩, A130, H⟩ := H
 replace H : ((laws_toIntS.f k l1).bind fun t399 => ((laws_toIntS.f k l2).bind fun t402 => ((spec_FlyGo.f k t392 t393 t394 t397 t398 t399 t402).bind fun bt405 => ((laws_toFlyPath.f k a0_0 a0_1 l0_2 a0_3 a0_4).bind fun bt409 => ((laws_toIntS.f k l1).bind fun t417 => ((laws_toIntS.f k l2).bind fun t420 => ((impl_FlyGo.f k bt409.1 bt409.2.1 bt409.2.2.1 bt409.2.2.2.1 bt409.2.2.2.2 t417 t420).bind fun bt423 => ((laws_eqIntS.f k bt423.1 bt405.1).bind fun t427 => (if t427 = true then (laws_FnExactFlyGo.j0 k l1 l2 bt405.1 bt405.2 t417 t420 bt423.1 bt423.2 (bt423.2 != bt405.2) a0_0 a0_1 l0_2 a0_3 a0_4 bt409.1 bt409.2.1 bt409.2.2.1 bt409.2.2.2.1 bt409.2.2.2.2) else (laws_FnExactFlyGo.j0 k l1 l2 bt405.1 bt405.2 t417 t420 bt423.1 bt423.2 true a0_0 a0_1 l0_2 a0_3 a0_4 bt409.1 bt409.2.1 bt409.2.2.1 bt409.2.2.2.1 bt409.2.2.2.2)))))))))) = some r := H
 have A13 := zA A130
 clear A130
 replace H := zbd H; obtain ⟨t399, A14, H⟩ := H
 replace H := Option.bind_eq_some_iff.mp H
 obtain ⟨t402, A150, H⟩ := H
 replace H : ((spec_FlyGo.f k t392 t393 t394 t397 t398 t399 t402).bind fun bt405 => ((laws_toFlyPath.f k a0_0 a0_1 l0_2 a0_3 a0_4).bind fun bt409 => ((laws_toIntS.f k l1).bind fun t417 => ((laws_toIntS.f k l2).bind fun t420 => ((impl_FlyGo.f k bt409.1 bt409.2.1 bt409.2.2.1 bt409.2.2.2.1 bt409.2.2.2.2 t417 t420).bind fun bt423 => ((laws_eqIntS.f k bt423.1 bt405.1).bind fun t427 => (if t427 = true then (laws_FnExactFlyGo.j0 k l1 l2 bt405.1 bt405.2 t417 t420 bt423.1 bt423.2 (bt423.2 != bt405.2) a0_0 a0_1 l0_2 a0_3 a0_4 bt409.1 bt409.2.1 bt409.2.2.1 bt409.2.2.2.1 bt409.2.2.2.2) else (laws_FnExactFlyGo.j0 k l1 l2 bt405.1 bt405.2 t417 t420 bt423.1 bt423.2 true a0_0 a0_1 l0_2 a0_3 a0_4 bt409.1 bt409.2.1 bt409.2.2.1 bt409.2.2.2.1 bt409.2.2.2.2)))))))) = some r := H
 have A15 := zA A150
 clear A150
 replace H := Option.bind_eq_some_iff.mp H
 obtain ⟨⟨t405, t408⟩, A160, H⟩ := H
 replace H : ((laws_toFlyPath.f k a0_0 a0_1 l0_2 a0_3 a0_4).bind fun bt409 => ((laws_toIntS.f k l1).bind fun t417 => ((laws_toIntS.f k l2).bind fun t420 => ((impl_FlyGo.f k bt409.1 bt409.2.1 bt409.2.2.1 bt409.2.2.2.1 bt409.2.2.2.2 t417 t420).bind fun bt423 => ((laws_eqIntS.f k bt423.1 t405).bind fun t427 => (if t427 = true then (laws_FnExactFlyGo.j0 k l1 l2 t405 t408 t417 t420 bt423.1 bt423.2 (bt423.2 != t408) a0_0 a0_1 l0_2 a0_3 a0_4 bt409.1 bt409.2.1 bt409.2.2.1 bt409.2.2.2.1 bt409.2.2.2.2) else (laws_FnExactFlyGo.j0 k l1 l2 t405 t408 t417 t420 bt423.1 bt423.2 true a0_0 a0_1 l0_2 a0_3 a0_4 bt409.1 bt409.2.1 bt409.2.2.1 bt409.2.2.2.1 bt409.2.2.2.2))))))) = some r := H
 have A16 := zA A160
 clear A160
 replace H := Option.bind_eq_some_iff.mp H
 obtain ⟨⟨t409, t410, t411, t414, t415⟩, A170, H⟩ := H
 replace H : ((laws_toIntS.f k l1).bind fun t417 => ((laws_toIntS.f k l2).bind fun t420 => ((impl_FlyGo.f k t409 t410 t411 t414 t415 t417 t420).bind fun bt423 => ((laws_eqIntS.f k bt423.1 t405).bind fun t427 => (if t427 = true then (laws_FnExactFlyGo.j0 k l1 l2 t405 t408 t417 t420 bt423.1 bt423.2 (bt423.2 != t408) a0_0 a0_1 l0_2 a0_3 a0_4 t409 t410 t411 t414 t415) else (laws_FnExactFlyGo.j0 k l1 l2 t405 t408 t417 t420 bt423.1 bt423.2 true a0_0 a0_1 l0_2 a0_3 a0_4 t409 t410 t411 t414 t415)))))) = some r := H
 have A17 := zA A170
 clear A170
 replace H := zbd H; obtain ⟨t417, A18, H⟩ := H
 replace H := Option.bind_eq_some_iff.mp H
 obtain ⟨t420, A190, H⟩ := H
 replace H : ((impl_FlyGo.f k t409 t410 t411 t414 t415 t417 t420).bind fun bt423 => ((laws_eqIntS.f k bt423.1 t405).bind fun t427 => (if t427 = true then (laws_FnExactFlyGo.j0 k l1 l2 t405 t408 t417 t420 bt423.1 bt423.2 (bt423.2 != t408) a0_0 a0_1 l0_2 a0_3 a0_4 t409 t410 t411 t414 t415) else (laws_FnExactFlyGo.j0 k l1 l2 t405 t408 t417 t420 bt423.1 bt423.2 true a0_0 a0_1 l0_2 a0_3 a0_4 t409 t410 t411 t414 t415)))) = some r := H
 have A19 := zA A190
 clear A190
 replace H := Option.bind_eq_some_iff.mp H
 obtain ⟨⟨t423, t426⟩, A200, H⟩ := H
 replace H : ((laws_eqIntS.f k t423 t405).bind fun t427 => (if t427 = true then (laws_FnExactFlyGo.j0 k l1 l2 t405 t408 t417 t420 t423 t426 (t426 != t408) a0_0 a0_1 l0_2 a0_3 a0_4 t409 t410 t411 t414 t415) else (laws_FnExactFlyGo.j0 k l1 l2 t405 t408 t417 t420 t423 t426 true a0_0 a0_1 l0_2 a0_3 a0_4 t409 t410 t411 t414 t415))) = some r := H
 have A20 := zA A200
 clear A200
 have HC21 := zA H
 clear H
 go_enter Try.func3, Try.ntmps3
 go_upto_region 14 with (first | ((with_reducible refine gate_dst (N := 3) rfl ?_); refine zbx 3 #[.int .i64 a0_0, .int .i64 a0_1, .slice A0_2 l0_2.length c0_2, .int .i64 a0_3, .int .i64 a0_4] 26 ?_; intro gb390 hg w22 hbox hb; have BK390 := zA hbox; have GW390 := zgs hg (zs0 HB); have GE390 := zgs hg (zs0 HB); replace HB := zE (zs0 HB) hb; clear hb hbox hg; obtain ⟨hcz23_0, hcz23_1, hcz23_2, hcz23_3, hcz23_4⟩ := zd5 BK390; obtain ⟨hfz23_0, hfz23_1, hfz23_2, hfz23_3, hfz23_4⟩ := zn5 BK390) | ((with_reducible refine gate_callee (f := 15) rfl ?_); refine zgl (N := some 28) Try.func15 #[.agg #[.int .i64 a0_0, .int .i64 a0_1, .slice A0_2 l0_2.length c0_2, .int .i64 a0_3, .int .i64 a0_4], .int .i64 1048576] ?_; (with_reducible refine (laws_szFlyPath.calls a0_0 a0_1 _ _ l0_2 a0_3 a0_4 1048576 t391 _ ?side1 ?side2 A8.out).mono ?_); (case side1 => exact zC HR0_2 HB); (case side2 => exact HC0_2.out); rintro e w24 ⟨rfl, hb⟩; refine ⟨_, rfl, ?_⟩; replace BK390 := zb BK390 hb; replace HB := zE (zs1 HB GE390) hb; (try clear hb); (try clear hb2); (try clear hk); (try clear hi); obtain ⟨hcz25_0, hcz25_1, hcz25_2, hcz25_3, hcz25_4⟩ := zd5 BK390; obtain ⟨hfz25_0, hfz25_1, hfz25_2, hfz25_3, hfz25_4⟩ := zn5 BK390) | ((with_reducible refine gate_callee (f := 17) rfl ?_); refine zgl (N := some 33) Try.func17 #[.agg #[.int .i64 a0_0, .int .i64 a0_1, .slice A0_2 l0_2.length c0_2, .int .i64 a0_3, .int .i64 a0_4]] ?_; (with_reducible refine (laws_toFlyPath.calls k a0_0 a0_1 _ _ l0_2 a0_3 a0_4 t392 t393 t394 t397 t398 _ ?side1 ?side2 A13.out).mono ?_); (case side1 => exact zC HR0_2 HB); (case side2 => exact HC0_2.out); rintro e w26 ⟨v395, rfl, ho0, hb⟩; refine ⟨_, rfl, ?_⟩; have HO396 := zA (Kd.R_lower ho0 (below_size (zs1 HB GE390))); replace BK390 := zb BK390 hb; replace HB := zE (zs1 HB GE390) hb; (try clear hb); (try clear hb2); (try clear hk); (try clear hi); (try clear ho0)) | ((with_reducible refine gate_callee (f := 18) rfl ?_); refine zgl (N := some 35) Try.func18 #[.slice A1 l1.length c1] ?_; (with_reducible refine (laws_toIntS.calls k _ _ l1 t399 _ ?side1 ?side2 A14.out).mono ?_); (case side1 => exact zC HR1 HB); (case side2 => exact HC1.out); rintro e w27 ⟨v400, rfl, ho0, hb⟩; refine ⟨_, rfl, ?_⟩; have HO401 := zA (Kd.R_lower ho0 (below_size (zs1 HB GE390))); replace HO396 := zA (Kd.R_below (zr HO396) hb); replace BK390 := zb BK390 hb; replace HB := zE (zs1 HB GE390) hb; (try clear hb); (try clear hb2); (try clear hk); (try clear hi); (try clear ho0)) | ((with_reducible refine gate_callee (f := 18) rfl ?_); refine zgl (N := some 37) Try.func18 #[.slice A2 l2.length c2] ?_; (with_reducible refine (laws_toIntS.calls k _ _ l2 t402 _ ?side1 ?side2 A15.out).mono ?_); (case side1 => exact zC HR2 HB); (case side2 => exact HC2.out); rintro e w28 ⟨v403, rfl, ho0, hb⟩; refine ⟨_, rfl, ?_⟩; have HO404 := zA (Kd.R_lower (Kd.R_new' ho0 (Kd.R_lt (zr HO401))) (below_size (zs1 HB GE390))); replace HO396 := zA (Kd.R_below (zr HO396) hb); replace HO401 := zA (Kd.R_elder' (zr HO401) (Kd.R_base ho0) hb); replace BK390 := zb BK390 hb; replace HB := zE (zs1 HB GE390) hb; (try clear hb); (try clear hb2); (try clear hk); (try clear hi); (try clear ho0); obtain ⟨Ao29, co29, eo29⟩ := Kd.R_slice HO396.out; subst eo29; obtain ⟨Ao30, co30, eo30⟩ := Kd.R_slice HO401.out; subst eo30; obtain ⟨Ao31, co31, eo31⟩ := Kd.R_slice HO404.out; subst eo31) | ((with_reducible refine gate_callee (f := 16) rfl ?_); refine zgl (N := some 38) Try.func16 #[.agg #[.int .i64 t392, .int .i64 t393, .slice Ao29 t394.length co29, .int .i64 t397, .int .i64 t398], .slice Ao30 t399.length co30, .slice Ao31 t402.length co31] ?_; (with_reducible refine (spec_FlyGo.calls k t392 t393 _ _ t394 t397 t398 _ _ t399 _ _ t402 t405 t408 _ ?side1 ?side2 ?side3 ?side4 ?side5 ?side6 A16.out).mono ?_); (case side1 => repeat (first | exact (Kd.R_reads' HO396.out).2.2 | (with_reducible refine Kd.C_alloc ?_ _) | (with_reducible refine Kd.C_drewN ?_ _) | (with_reducible refine Kd.C_drew ?_))); (case side2 => exact (Kd.R_reads' HO396.out).2.1); (case side3 => repeat (first | exact (Kd.R_reads' HO401.out).2.2 | (with_reducible refine Kd.C_alloc ?_ _) | (with_reducible refine Kd.C_drewN ?_ _) | (with_reducible refine Kd.C_drew ?_))); (case side4 => exact (Kd.R_reads' HO401.out).2.1); (case side5 => repeat (first | exact (Kd.R_reads' HO404.out).2.2 | (with_reducible refine Kd.C_alloc ?_ _) | (with_reducible refine Kd.C_drewN ?_ _) | (with_reducible refine Kd.C_drew ?_))); (case side6 => exact (Kd.R_reads' HO404.out).2.1); rintro e w32 ⟨v406, rfl, ho0, hb⟩; refine ⟨_, rfl, ?_⟩; have HO407 := zA (Kd.R_lower (Kd.R_new' (Kd.R_new' ho0 (Kd.R_lt (zr HO401))) (Kd.R_lt (zr HO404))) (below_size (zs1 HB GE390))); replace HO396 := zA (Kd.R_below (zr HO396) hb); replace HO401 := zA (Kd.R_elder' (zr HO401) (Kd.R_base ho0) hb); replace HO404 := zA (Kd.R_elder' (zr HO404) (Kd.R_base ho0) hb); replace BK390 := zb BK390 hb; replace HB := zE (zs1 HB GE390) hb; (try clear hb); (try clear hb2); (try clear hk); (try clear hi); (try clear ho0); obtain ⟨hcz33_0, hcz33_1, hcz33_2, hcz33_3, hcz33_4⟩ := zd5 BK390; obtain ⟨hfz33_0, hfz33_1, hfz33_2, hfz33_3, hfz33_4⟩ := zn5 BK390) | ((with_reducible refine gate_callee (f := 17) rfl ?_); refine zgl (N := some 42) Try.func17 #[.agg #[.int .i64 a0_0, .int .i64 a0_1, .slice A0_2 l0_2.length c0_2, .int .i64 a0_3, .int .i64 a0_4]] ?_; (with_reducible refine (laws_toFlyPath.calls k a0_0 a0_1 _ _ l0_2 a0_3 a0_4 t409 t410 t411 t414 t415 _ ?side1 ?side2 A17.out).mono ?_); (case side1 => exact zC HR0_2 HB); (case side2 => exact HC0_2.out); rintro e w34 ⟨v412, rfl, ho0, hb⟩; refine ⟨_, rfl, ?_⟩; have HO413 := zA (Kd.R_lower (Kd.R_new' ho0 (Kd.R_lt (zr HO396))) (below_size (zs1 HB GE390))); replace HO396 := zA (Kd.R_elder' (zr HO396) (Kd.R_base ho0) hb); replace HO401 := zA (Kd.R_below (zr HO401) hb); replace HO404 := zA (Kd.R_below (zr HO404) hb); replace HO407 := zA (Kd.R_below (zr HO407) hb); replace BK390 := zb BK390 hb; replace HB := zE (zs1 HB GE390) hb; (try clear hb); (try clear hb2); (try clear hk); (try clear hi); (try clear ho0)) | ((with_reducible refine gate_dst (N := 10) rfl ?_); refine zbx 10 #[.int .i64 0, .int .i64 0, .slice none 0 0, .int .i64 0, .int .i64 0] 34 ?_; intro gb416 hg w35 hbox hb; have BK416 := zA hbox; have GW416 := zgs hg (zs1 HB GE390); have GE416 := zgs hg (zs1 HB GE390); have NB390_416 := zne hg BK390; have NB416_390 := znf hg BK390; replace HO396 := zA (Kd.R_below (zr HO396) hb); replace HO401 := zA (Kd.R_below (zr HO401) hb); replace HO404 := zA (Kd.R_below (zr HO404) hb); replace HO407 := zA (Kd.R_below (zr HO407) hb); replace HO413 := zA (Kd.R_below (zr HO413) hb); replace BK390 := zb BK390 hb; replace HB := zE (zs1 HB GE390) hb; clear hb hbox hg; have hnb36 := NB416_390.out; have hnc36 := NB390_416.out; obtain ⟨hcz37_0, hcz37_1, hcz37_2, hcz37_3, hcz37_4⟩ := zd5 BK416; obtain ⟨hfz37_0, hfz37_1, hfz37_2, hfz37_3, hfz37_4⟩ := zn5 BK416; obtain ⟨Ao38, co38, eo38⟩ := Kd.R_slice HO413.out; subst eo38) | ((with_reducible refine gate_callee (f := 18) rfl ?_); refine zgl (N := some 44) Try.func18 #[.slice A1 l1.length c1] ?_; (with_reducible refine (laws_toIntS.calls k _ _ l1 t417 _ ?side1 ?side2 A18.out).mono ?_); (case side1 => exact Kd.C_below HR1.out (zs2 HB GE390 GE416)); (case side2 => exact HC1.out); rintro e w39 ⟨v418, rfl, ho0, hb⟩; refine ⟨_, rfl, ?_⟩; have HO419 := zA (Kd.R_lower (Kd.R_new' (Kd.R_new' (Kd.R_new' ho0 (Kd.R_lt (zRf HO401 BK416 (fun _ h_ => h_.1)))) (Kd.R_lt (zRf HO404 BK416 (fun _ h_ => h_.1)))) (Kd.R_lt (zRf HO407 BK416 (fun _ h_ => h_.1)))) (below_size (zs2 HB GE390 GE416))); replace HO396 := zA (Kd.R_below (zRf HO396 BK416 (fun _ h_ => h_.1)) hb); replace HO401 := zA (Kd.R_elder' (zRf HO401 BK416 (fun _ h_ => h_.1)) (Kd.R_base ho0) hb); replace HO404 := zA (Kd.R_elder' (zRf HO404 BK416 (fun _ h_ => h_.1)) (Kd.R_base ho0) hb); replace HO407 := zA (Kd.R_elder' (zRf HO407 BK416 (fun _ h_ => h_.1)) (Kd.R_base ho0) hb); replace HO413 := zA (Kd.R_below (zRf HO413 BK416 (fun _ h_ => h_.1)) hb); replace BK390 := zA (blk_below (g := gb390) (o := .cells #[.int .i64 a0_0, .int .i64 a0_1, .slice A0_2 l0_2.length c0_2, .int .i64 a0_3, .int .i64 a0_4] 26 (0, 0)) (zpf BK390 NB390_416) hb); replace BK416 := zA (blk_below (g := gb416) (o := .cells #[.int .i64 t409, .int .i64 t410, .slice Ao38 t411.length co38, .int .i64 t414, .int .i64 t415] 34 (0, 0)) (zpb BK416) hb); replace HB := zE (zs2 HB GE390 GE416) hb; (try clear hb); (try clear hb2); (try clear hk); (try clear hi); (try clear ho0)) | ((with_reducible refine gate_callee (f := 18) rfl ?_); refine zgl (N := some 46) Try.func18 #[.slice A2 l2.length c2] ?_; (with_reducible refine (laws_toIntS.calls k _ _ l2 t420 _ ?side1 ?side2 A19.out).mono ?_); (case side1 => exact zC HR2 HB); (case side2 => exact HC2.out); rintro e w40 ⟨v421, rfl, ho0, hb⟩; refine ⟨_, rfl, ?_⟩; have HO422 := zA (Kd.R_lower (Kd.R_new' (Kd.R_new' (Kd.R_new' (Kd.R_new' ho0 (Kd.R_lt (zr HO401))) (Kd.R_lt (zr HO404))) (Kd.R_lt (zr HO407))) (Kd.R_lt (zr HO419))) (below_size (zs2 HB GE390 GE416))); replace HO396 := zA (Kd.R_below (zr HO396) hb); replace HO401 := zA (Kd.R_elder' (zr HO401) (Kd.R_base ho0) hb); replace HO404 := zA (Kd.R_elder' (zr HO404) (Kd.R_base ho0) hb); replace HO407 := zA (Kd.R_elder' (zr HO407) (Kd.R_base ho0) hb); replace HO413 := zA (Kd.R_below (zr HO413) hb); replace HO419 := zA (Kd.R_elder' (zr HO419) (Kd.R_base ho0) hb); replace BK390 := zb BK390 hb; replace BK416 := zb BK416 hb; replace HB := zE (zs2 HB GE390 GE416) hb; (try clear hb); (try clear hb2); (try clear hk); (try clear hi); (try clear ho0); obtain ⟨hcz41_0, hcz41_1, hcz41_2, hcz41_3, hcz41_4⟩ := zd5 BK416; obtain ⟨hfz41_0, hfz41_1, hfz41_2, hfz41_3, hfz41_4⟩ := zn5 BK416; obtain ⟨Ao42, co42, eo42⟩ := Kd.R_slice HO419.out; subst eo42; obtain ⟨Ao43, co43, eo43⟩ := Kd.R_slice HO422.out; subst eo43) | ((with_reducible refine gate_callee (f := 19) rfl ?_); refine zgl (N := some 51) Try.func19 #[.agg #[.int .i64 t409, .int .i64 t410, .slice Ao38 t411.length co38, .int .i64 t414, .int .i64 t415], .slice Ao42 t417.length co42, .slice Ao43 t420.length co43] ?_; (with_reducible refine (impl_FlyGo.calls k t409 t410 _ _ t411 t414 t415 _ _ t417 _ _ t420 t423 t426 _ ?side1 ?side2 ?side3 ?side4 ?side5 ?side6 A20.out).mono ?_); (case side1 => repeat (first | exact (Kd.R_reads' HO413.out).2.2 | (with_reducible refine Kd.C_alloc ?_ _) | (with_reducible refine Kd.C_drewN ?_ _) | (with_reducible refine Kd.C_drew ?_))); (case side2 => exact (Kd.R_reads' HO413.out).2.1); (case side3 => repeat (first | exact (Kd.R_reads' HO419.out).2.2 | (with_reducible refine Kd.C_alloc ?_ _) | (with_reducible refine Kd.C_drewN ?_ _) | (with_reducible refine Kd.C_drew ?_))); (case side4 => exact (Kd.R_reads' HO419.out).2.1); (case side5 => repeat (first | exact (Kd.R_reads' HO422.out).2.2 | (with_reducible refine Kd.C_alloc ?_ _) | (with_reducible refine Kd.C_drewN ?_ _) | (with_reducible refine Kd.C_drew ?_))); (case side6 => exact (Kd.R_reads' HO422.out).2.1); rintro e w44 ⟨v424, rfl, ho0, hb⟩; refine ⟨_, rfl, ?_⟩; have HO425 := zA (Kd.R_lower (Kd.R_new' (Kd.R_new' (Kd.R_new' (Kd.R_new' (Kd.R_new' ho0 (Kd.R_lt (zr HO401))) (Kd.R_lt (zr HO404))) (Kd.R_lt (zr HO407))) (Kd.R_lt (zr HO419))) (Kd.R_lt (zr HO422))) (below_size (zs2 HB GE390 GE416))); replace HO396 := zA (Kd.R_below (zr HO396) hb); replace HO401 := zA (Kd.R_elder' (zr HO401) (Kd.R_base ho0) hb); replace HO404 := zA (Kd.R_elder' (zr HO404) (Kd.R_base ho0) hb); replace HO407 := zA (Kd.R_elder' (zr HO407) (Kd.R_base ho0) hb); replace HO413 := zA (Kd.R_below (zr HO413) hb); replace HO419 := zA (Kd.R_elder' (zr HO419) (Kd.R_base ho0) hb); replace HO422 := zA (Kd.R_elder' (zr HO422) (Kd.R_base ho0) hb); replace BK390 := zb BK390 hb; replace BK416 := zb BK416 hb; replace HB := zE (zs2 HB GE390 GE416) hb; (try clear hb); (try clear hb2); (try clear hk); (try clear hi); (try clear ho0)))
 (try simp only [Act.put, List.setIfInBounds_toArray, List.set_cons_zero, List.set_cons_succ])
 go_cut [62] (fun v62 wc => ∃ (kq : Nat) (x62_20 : Bool), v62 = .bool x62_20 ∧ Aside0 (laws_FnExactFlyGo.j0 kq l1 l2 t405 t408 t417 t420 t423 t426 x62_20 a0_0 a0_1 l0_2 a0_3 a0_4 t409 t410 t411 t414 t415 = some r) ∧ Aside0 (kq ≤ k) ∧ Aside0 (Kd.R (Kd.int .i64) 3 wc w.heap.size (fun k_ => some k_ ≠ ((.slice Ao42 t417.length co42) : Value).ownBlock ∧ some k_ ≠ ((.slice Ao43 t420.length co43) : Value).ownBlock ∧ some k_ ≠ (v424 : Value).ownBlock) v406 t405) ∧ Aside0 (Kd.R (Kd.int .i64) 3 wc w.heap.size (fun k_ => some k_ ≠ (v406 : Value).ownBlock ∧ some k_ ≠ ((.slice Ao43 t420.length co43) : Value).ownBlock ∧ some k_ ≠ (v424 : Value).ownBlock) (.slice Ao42 t417.length co42) t417) ∧ Aside0 (Kd.R (Kd.int .i64) 3 wc w.heap.size (fun k_ => some k_ ≠ (v406 : Value).ownBlock ∧ some k_ ≠ ((.slice Ao42 t417.length co42) : Value).ownBlock ∧ some k_ ≠ (v424 : Value).ownBlock) (.slice Ao43 t420.length co43) t420) ∧ Aside0 (Kd.R (Kd.int .i64) 3 wc w.heap.size (fun k_ => some k_ ≠ (v406 : Value).ownBlock ∧ some k_ ≠ ((.slice Ao42 t417.length co42) : Value).ownBlock ∧ some k_ ≠ ((.slice Ao43 t420.length co43) : Value).ownBlock) v424 t423) ∧ Aside0 (Kd.R k88 88 wc w.heap.size (fun _ => True) (.slice Ao38 t411.length co38) t411) ∧ Aside0 (wc.heap[gb390]? = some (.cells #[.int .i64 a0_0, .int .i64 a0_1, (.slice A0_2 l0_2.length c0_2), .int .i64 a0_3, .int .i64 a0_4] 26 (0, 0))) ∧ Aside0 (wc.heap[gb416]? = some (.cells #[.int .i64 t409, .int .i64 t410, (.slice Ao38 t411.length co38), .int .i64 t414, .int .i64 t415] 34 (0, 0))) ∧ Aside0 (Below w.heap.size w wc))
 case first =>
  have H := HC21.out
  clear HC21
  replace H := zbd H; obtain ⟨t427, A45, H⟩ := H
  by_cases c46 : t427 = true
  ·subst c46
   have H1 : (laws_FnExactFlyGo.j0 k l1 l2 t405 t408 t417 t420 t423 t426 (t426 != t408) a0_0 a0_1 l0_2 a0_3 a0_4 t409 t410 t411 t414 t415) = some r := by rw [if_pos rfl] at H; exact H
   clear H
   have H := H1
   clear H1
   have H' := zA H
   clear H
   obtain ⟨Ao47, co47, eo47⟩ := Kd.R_slice HO425.out
   subst eo47
   obtain ⟨Ao48, co48, eo48⟩ := Kd.R_slice HO407.out
   subst eo48
   go_wp2_with (first | ((with_reducible refine gate_callee (f := 20) rfl ?_); refine zgl (N := some 56) Try.func20 #[.slice Ao47 t423.length co47, .slice Ao48 t405.length co48] ?_; (with_reducible refine (laws_eqIntS.calls k _ _ t423 _ _ t405 true _ ?side1 ?side2 ?side3 ?side4 A45.out).mono ?_); (case side1 => repeat (first | exact (Kd.R_reads' HO425.out).2.2 | (with_reducible refine Kd.C_alloc ?_ _) | (with_reducible refine Kd.C_drewN ?_ _) | (with_reducible refine Kd.C_drew ?_))); (case side2 => exact (Kd.R_reads' HO425.out).2.1); (case side3 => repeat (first | exact (Kd.R_reads' HO407.out).2.2 | (with_reducible refine Kd.C_alloc ?_ _) | (with_reducible refine Kd.C_drewN ?_ _) | (with_reducible refine Kd.C_drew ?_))); (case side4 => exact (Kd.R_reads' HO407.out).2.1); rintro e w' ⟨rfl, ⟨nd, rfl⟩⟩; refine ⟨_, rfl, ?_⟩))
   go_meet
   case rel => exact ⟨_, ((t426 != t408)), zi, H', ⟨by first | omega | exact Nat.le_refl _⟩, ⟨by (with_reducible repeat (first | apply Kd.R_alloc | apply Kd.R_drewN | apply Kd.R_drew)); exact Kd.R_mono HO407.out (fun _ hk => ⟨hk.1.1.2, ⟨hk.1.2, hk.2⟩⟩)⟩, ⟨by (with_reducible repeat (first | apply Kd.R_alloc | apply Kd.R_drewN | apply Kd.R_drew)); exact Kd.R_mono HO419.out (fun _ hk => ⟨hk.1.1.2, ⟨hk.1.2, hk.2⟩⟩)⟩, ⟨by (with_reducible repeat (first | apply Kd.R_alloc | apply Kd.R_drewN | apply Kd.R_drew)); exact Kd.R_mono HO422.out (fun _ hk => ⟨hk.1.1.2, ⟨hk.1.2, hk.2⟩⟩)⟩, ⟨by (with_reducible repeat (first | apply Kd.R_alloc | apply Kd.R_drewN | apply Kd.R_drew)); exact Kd.R_mono HO425.out (fun _ hk => ⟨hk.1.1.2, ⟨hk.1.2, hk.2⟩⟩)⟩, ⟨by (with_reducible repeat (first | apply Kd.R_alloc | apply Kd.R_drewN | apply Kd.R_drew)); exact Kd.R_mono HO413.out (fun _ hk => trivial)⟩, ⟨zh BK390⟩, ⟨zh BK416⟩, ⟨zs2 HB GE390 GE416⟩⟩
  replace c46 := Bool.eq_false_iff.mpr c46
  subst c46
  have H1 : (laws_FnExactFlyGo.j0 k l1 l2 t405 t408 t417 t420 t423 t426 true a0_0 a0_1 l0_2 a0_3 a0_4 t409 t410 t411 t414 t415) = some r := by rw [if_neg (show ¬ (false = true) by decide)] at H; exact H
  clear H
  have H := H1
  clear H1
  have H' := zA H
  clear H
  obtain ⟨Ao49, co49, eo49⟩ := Kd.R_slice HO425.out
  subst eo49
  obtain ⟨Ao50, co50, eo50⟩ := Kd.R_slice HO407.out
  subst eo50
  go_wp2_with (first | ((with_reducible refine gate_callee (f := 20) rfl ?_); refine zgl (N := some 56) Try.func20 #[.slice Ao49 t423.length co49, .slice Ao50 t405.length co50] ?_; (with_reducible refine (laws_eqIntS.calls k _ _ t423 _ _ t405 false _ ?side1 ?side2 ?side3 ?side4 A45.out).mono ?_); (case side1 => repeat (first | exact (Kd.R_reads' HO425.out).2.2 | (with_reducible refine Kd.C_alloc ?_ _) | (with_reducible refine Kd.C_drewN ?_ _) | (with_reducible refine Kd.C_drew ?_))); (case side2 => exact (Kd.R_reads' HO425.out).2.1); (case side3 => repeat (first | exact (Kd.R_reads' HO407.out).2.2 | (with_reducible refine Kd.C_alloc ?_ _) | (with_reducible refine Kd.C_drewN ?_ _) | (with_reducible refine Kd.C_drew ?_))); (case side4 => exact (Kd.R_reads' HO407.out).2.1); rintro e w' ⟨rfl, ⟨nd, rfl⟩⟩; refine ⟨_, rfl, ?_⟩))
  go_meet
  case rel => exact ⟨_, (true), zi, H', ⟨by first | omega | exact Nat.le_refl _⟩, ⟨by (with_reducible repeat (first | apply Kd.R_alloc | apply Kd.R_drewN | apply Kd.R_drew)); exact Kd.R_mono HO407.out (fun _ hk => ⟨hk.1.1.2, ⟨hk.1.2, hk.2⟩⟩)⟩, ⟨by (with_reducible repeat (first | apply Kd.R_alloc | apply Kd.R_drewN | apply Kd.R_drew)); exact Kd.R_mono HO419.out (fun _ hk => ⟨hk.1.1.2, ⟨hk.1.2, hk.2⟩⟩)⟩, ⟨by (with_reducible repeat (first | apply Kd.R_alloc | apply Kd.R_drewN | apply Kd.R_drew)); exact Kd.R_mono HO422.out (fun _ hk => ⟨hk.1.1.2, ⟨hk.1.2, hk.2⟩⟩)⟩, ⟨by (with_reducible repeat (first | apply Kd.R_alloc | apply Kd.R_drewN | apply Kd.R_drew)); exact Kd.R_mono HO425.out (fun _ hk => ⟨hk.1.1.2, ⟨hk.1.2, hk.2⟩⟩)⟩, ⟨by (with_reducible repeat (first | apply Kd.R_alloc | apply Kd.R_drewN | apply Kd.R_drew)); exact Kd.R_mono HO413.out (fun _ hk => trivial)⟩, ⟨zh BK390⟩, ⟨zh BK416⟩, ⟨zs2 HB GE390 GE416⟩⟩
 case rest =>
  clear HC21
  try clear c1
  try clear c2
  try clear p2
  try clear c3
  try clear c4
  try clear c4b0
  try clear c4b1
  try clear c6
  try clear c6b0
  try clear c6b1
  try clear c9
  try clear c9b0
  try clear c15
  try clear c16
  try clear c17
  try clear c18
  try clear c19
  try clear c20
  try clear c36
  try clear c46
  try clear hcz11_0 hcz11_1 hcz11_2 hcz11_3 hcz11_4
  try clear hcz23_0 hcz23_1 hcz23_2 hcz23_3 hcz23_4
  try clear hcz25_0 hcz25_1 hcz25_2 hcz25_3 hcz25_4
  try clear hcz33_0 hcz33_1 hcz33_2 hcz33_3 hcz33_4
  try clear hcz37_0 hcz37_1 hcz37_2 hcz37_3 hcz37_4
  try clear hcz41_0 hcz41_1 hcz41_2 hcz41_3 hcz41_4
  try clear hfz11_0 hfz11_1 hfz11_2 hfz11_3 hfz11_4
  try clear hfz23_0 hfz23_1 hfz23_2 hfz23_3 hfz23_4
  try clear hfz25_0 hfz25_1 hfz25_2 hfz25_3 hfz25_4
  try clear hfz33_0 hfz33_1 hfz33_2 hfz33_3 hfz33_4
  try clear hfz37_0 hfz37_1 hfz37_2 hfz37_3 hfz37_4
  try clear hfz41_0 hfz41_1 hfz41_2 hfz41_3 hfz41_4
  obtain ⟨kq, x62_20, rfl, HA, HJ20, HO_8, HO_11, HO_12, HO_13, HO_417002, BK390, BK416, HB⟩ := hcut
  cases kq with
  | zero => exact absurd HA.out (by simp [laws_FnExactFlyGo.j0])
  | succ kj20 =>
   have H := HA.out
   clear HA
   simp only [laws_FnExactFlyGo.j0] at H
   by_cases c51 : x62_20 = true
   ·subst c51
    have H1 : (some false) = some r := by rw [if_pos rfl] at H; exact H
    clear H
    have H := H1
    clear H1
    obtain rfl := Option.some.inj H
    go_wp2
    go_ret
    exact ⟨ze, zs2 HB GE390 GE416⟩
   replace c51 := Bool.eq_false_iff.mpr c51
   subst c51
   have H1 : ((laws_toFlyPath.f kj20 a0_0 a0_1 l0_2 a0_3 a0_4).bind fun bt428 => ((laws_eqFlyPath.f kj20 t409 t410 t411 t414 t415 bt428.1 bt428.2.1 bt428.2.2.1 bt428.2.2.2.1 bt428.2.2.2.2).bind fun t435 => (if t435 = true then ((laws_toIntS.f kj20 l1).bind fun t436 => ((laws_eqIntS.f kj20 t417 t436).bind fun t439 => (if t439 = true then ((laws_toIntS.f kj20 l2).bind fun t440 => ((laws_eqIntS.f kj20 t420 t440).bind fun t443 => (if t443 = true then ((laws_markFlyPath.f kj20 t409 t410 t411 t414 t415 1).bind fun bt444 => ((laws_markIntS.f kj20 t417 bt444.1).bind fun bt446 => ((laws_markIntS.f kj20 t420 bt446.1).bind fun bt448 => (if bt448.1 < 0 then (laws_FnExactFlyGo.j1 kj20 l1 l2 t405 t408 t423 true a0_0 a0_1 l0_2 a0_3 a0_4) else ((laws_eqIntS.f kj20 t423 t405).bind fun t450 => (if t450 = true then (laws_FnExactFlyGo.j1 kj20 l1 l2 t405 t408 t423 (t426 != t408) a0_0 a0_1 l0_2 a0_3 a0_4) else (laws_FnExactFlyGo.j1 kj20 l1 l2 t405 t408 t423 true a0_0 a0_1 l0_2 a0_3 a0_4))))))) else (some false)))) else (some false)))) else (some false)))) = some r := by rw [if_neg (show ¬ (false = true) by decide)] at H; exact H
   clear H
   have H := H1
   clear H1
   replace H := Option.bind_eq_some_iff.mp H
   obtain ⟨⟨t428, t429, t430, t433, t434⟩, A520, H⟩ := H
   replace H : ((laws_eqFlyPath.f kj20 t409 t410 t411 t414 t415 t428 t429 t430 t433 t434).bind fun t435 => (if t435 = true then ((laws_toIntS.f kj20 l1).bind fun t436 => ((laws_eqIntS.f kj20 t417 t436).bind fun t439 => (if t439 = true then ((laws_toIntS.f kj20 l2).bind fun t440 => ((laws_eqIntS.f kj20 t420 t440).bind fun t443 => (if t443 = true then ((laws_markFlyPath.f kj20 t409 t410 t411 t414 t415 1).bind fun bt444 => ((laws_markIntS.f kj20 t417 bt444.1).bind fun bt446 => ((laws_markIntS.f kj20 t420 bt446.1).bind fun bt448 => (if bt448.1 < 0 then (laws_FnExactFlyGo.j1 kj20 l1 l2 t405 t408 t423 true a0_0 a0_1 l0_2 a0_3 a0_4) else ((laws_eqIntS.f kj20 t423 t405).bind fun t450 => (if t450 = true then (laws_FnExactFlyGo.j1 kj20 l1 l2 t405 t408 t423 (t426 != t408) a0_0 a0_1 l0_2 a0_3 a0_4) else (laws_FnExactFlyGo.j1 kj20 l1 l2 t405 t408 t423 true a0_0 a0_1 l0_2 a0_3 a0_4))))))) else (some false)))) else (some false)))) else (some false))) = some r := H
   have A52 := zA A520
   clear A520
   replace H := zbd H; obtain ⟨t435, A53, H⟩ := H
   by_cases c54 : t435 = true
   rotate_left
   ·replace c54 := Bool.eq_false_iff.mpr c54
    subst c54
    have H1 : (some false) = some r := by rw [if_neg (show ¬ (false = true) by decide)] at H; exact H
    clear H
    have H := H1
    clear H1
    obtain rfl := Option.some.inj H
    try go_wp2
    replace HO_8 := zA (Kd.R_drew HO_8.out)
    replace HO_11 := zA (Kd.R_drew HO_11.out)
    replace HO_12 := zA (Kd.R_drew HO_12.out)
    replace HO_13 := zA (Kd.R_drew HO_13.out)
    replace HO_417002 := zA (Kd.R_drew HO_417002.out)
    replace BK390 := zA (blk_drew BK390.out)
    replace BK416 := zA (blk_drew BK416.out)
    replace HB := zA (below_drew1 HB.out)
    refine start_ (n := 5) (S := fun w' => w'.cell? ⟨gb416, 0, none⟩ = some (.int .i64 t409) ∧ w'.cell? ⟨gb416, 1, none⟩ = some (.int .i64 t410) ∧ w'.cell? ⟨gb416, 2, none⟩ = some (.slice Ao38 t411.length co38) ∧ w'.cell? ⟨gb416, 3, none⟩ = some (.int .i64 t414) ∧ w'.cell? ⟨gb416, 4, none⟩ = some (.int .i64 t415) ∧ w'.cell? ⟨gb390, 0, none⟩ = some (.int .i64 a0_0) ∧ w'.cell? ⟨gb390, 1, none⟩ = some (.int .i64 a0_1) ∧ w'.cell? ⟨gb390, 2, none⟩ = some (.slice A0_2 l0_2.length c0_2) ∧ w'.cell? ⟨gb390, 3, none⟩ = some (.int .i64 a0_3) ∧ w'.cell? ⟨gb390, 4, none⟩ = some (.int .i64 a0_4)) (ds := []) #[F,F,F,F,F] (by kernel_rfl) rfl rfl ⟨zc0 BK416, zc1 BK416, zc2 BK416, zc3 BK416, zc4 BK416, zc0 BK390, zc1 BK390, zc2 BK390, zc3 BK390, zc4 BK390⟩ (fun hHeld => ?_)
    generalize wc.drew = w134 at HO_8 HO_11 HO_12 HO_13 HO_417002 BK390 BK416 HB hHeld ⊢
    refine take_ (i := 0) (N := some 63) (v := ?_) (a' := ?_) #[T,F,F,F,F] rfl rfl (by kernel_rfl) (fun _ _ _ h => h) (Or.inl ⟨by rfl, ?_⟩) hHeld ?_ ?_; rotate_left; exact zt10; rotate_left; exact zput
    refine take_ (i := 1) (N := some 64) (v := ?_) (a' := ?_) #[T,T,F,F,F] rfl rfl (by kernel_rfl) (fun _ _ _ h => h) (Or.inl ⟨by rfl, ?_⟩) hHeld ?_ ?_; rotate_left; exact zt10; rotate_left; exact zput
    refine one_ (i := 2) (N := some 65) #[T,T,T,F,F] rfl rfl (by kernel_rfl) (by decide) (fun K hK => ?_)
    refine zgo Try.func17 #[.agg #[.int .i64 a0_0, .int .i64 a0_1, .slice A0_2 l0_2.length c0_2, .int .i64 a0_3, .int .i64 a0_4]] ?_
    with_reducible refine (laws_toFlyPath.calls kj20 a0_0 a0_1 _ _ l0_2 a0_3 a0_4 t428 t429 t430 t433 t434 _ ?side1 ?side2 A52.out).mono ?_
    (case side1 => exact zC HR0_2 HB)
    (case side2 => exact HC0_2.out)
    rintro e w135 ⟨v431, rfl, ho0, hb⟩
    refine ⟨_, rfl, ?_⟩
    have HO432 := zA (Kd.R_lower (Kd.R_new' ho0 (Kd.R_lt (zr HO_417002))) (below_size (zs2 HB GE390 GE416)))
    replace HO_8 := zA (Kd.R_below (zr HO_8) hb)
    replace HO_11 := zA (Kd.R_below (zr HO_11) hb)
    replace HO_12 := zA (Kd.R_below (zr HO_12) hb)
    replace HO_13 := zA (Kd.R_below (zr HO_13) hb)
    replace HO_417002 := zA (Kd.R_elder' (zr HO_417002) (Kd.R_base ho0) hb)
    replace BK390 := zb BK390 hb
    replace BK416 := zb BK416 hb
    replace HB := zE (zs2 HB GE390 GE416) hb
    (try clear hb)
    (try clear hb2)
    (try clear hk)
    (try clear hi)
    (try clear ho0)
    obtain ⟨Ao136, co136, eo136⟩ := Kd.R_slice HO432.out
    (first | subst eo136 | (injection eo136 with f1_ f2_ f3_; have f4_ := f1_.symm; have f5_ := f3_.symm; clear f1_ f2_ f3_; subst f4_; subst f5_))
    refine hK.out _ _ ⟨zc0 BK416, zc1 BK416, zc2 BK416, zc3 BK416, zc4 BK416, zc0 BK390, zc1 BK390, zc2 BK390, zc3 BK390, zc4 BK390⟩ (fun hHeld => ?_)
    clear hK K
    refine zN ?_
    refine one_ (i := 3) (N := some 66) #[T,T,T,T,F] rfl rfl (by kernel_rfl) (by decide) (fun K hK => ?_)
    refine zgo Try.func21 #[.agg #[.int .i64 t409, .int .i64 t410, .slice Ao38 t411.length co38, .int .i64 t414, .int .i64 t415], .agg #[.int .i64 t428, .int .i64 t429, .slice Ao136 t430.length co136, .int .i64 t433, .int .i64 t434]] ?_
    with_reducible refine (laws_eqFlyPath.calls kj20 t409 t410 _ _ t411 t414 t415 t428 t429 _ _ t430 t433 t434 false _ ?side1 ?side2 ?side3 ?side4 A53.out).mono ?_
    (case side1 => repeat (first | exact (Kd.R_reads' HO_417002.out).2.2 | (with_reducible refine Kd.C_alloc ?_ _) | (with_reducible refine Kd.C_drewN ?_ _) | (with_reducible refine Kd.C_drew ?_)))
    (case side2 => exact (Kd.R_reads' HO_417002.out).2.1)
    (case side3 => repeat (first | exact (Kd.R_reads' HO432.out).2.2 | (with_reducible refine Kd.C_alloc ?_ _) | (with_reducible refine Kd.C_drewN ?_ _) | (with_reducible refine Kd.C_drew ?_)))
    (case side4 => exact (Kd.R_reads' HO432.out).2.1)
    rintro e w137 ⟨rfl, hb⟩
    refine ⟨_, rfl, ?_⟩
    replace HO_8 := zA (Kd.R_below (zr HO_8) hb)
    replace HO_11 := zA (Kd.R_below (zr HO_11) hb)
    replace HO_12 := zA (Kd.R_below (zr HO_12) hb)
    replace HO_13 := zA (Kd.R_below (zr HO_13) hb)
    replace HO_417002 := zA (Kd.R_below (zr HO_417002) hb)
    replace HO432 := zA (Kd.R_below (zr HO432) hb)
    replace BK390 := zb BK390 hb
    replace BK416 := zb BK416 hb
    replace HB := zE (zs2 HB GE390 GE416) hb
    (try clear hb)
    (try clear hb2)
    (try clear hk)
    (try clear hi)
    refine hK.out _ _ ⟨zc0 BK416, zc1 BK416, zc2 BK416, zc3 BK416, zc4 BK416, zc0 BK390, zc1 BK390, zc2 BK390, zc3 BK390, zc4 BK390⟩ (fun hHeld => ?_)
    clear hK K
    refine zN ?_
    refine zp 4 ?_
    refine done_ (by kernel_rfl) ?_
    try go_wp2
    go_ret
    exact ⟨ze, zs2 HB GE390 GE416⟩
   subst c54
   have H1 : ((laws_toIntS.f kj20 l1).bind fun t436 => ((laws_eqIntS.f kj20 t417 t436).bind fun t439 => (if t439 = true then ((laws_toIntS.f kj20 l2).bind fun t440 => ((laws_eqIntS.f kj20 t420 t440).bind fun t443 => (if t443 = true then ((laws_markFlyPath.f kj20 t409 t410 t411 t414 t415 1).bind fun bt444 => ((laws_markIntS.f kj20 t417 bt444.1).bind fun bt446 => ((laws_markIntS.f kj20 t420 bt446.1).bind fun bt448 => (if bt448.1 < 0 then (laws_FnExactFlyGo.j1 kj20 l1 l2 t405 t408 t423 true a0_0 a0_1 l0_2 a0_3 a0_4) else ((laws_eqIntS.f kj20 t423 t405).bind fun t450 => (if t450 = true then (laws_FnExactFlyGo.j1 kj20 l1 l2 t405 t408 t423 (t426 != t408) a0_0 a0_1 l0_2 a0_3 a0_4) else (laws_FnExactFlyGo.j1 kj20 l1 l2 t405 t408 t423 true a0_0 a0_1 l0_2 a0_3 a0_4))))))) else (some false)))) else (some false)))) = some r := by rw [if_pos rfl] at H; exact H
   clear H
   have H := H1
   clear H1
   replace H := zbd H; obtain ⟨t436, A55, H⟩ := H
   replace H := Option.bind_eq_some_iff.mp H
   obtain ⟨t439, A560, H⟩ := H
   replace H : (if t439 = true then ((laws_toIntS.f kj20 l2).bind fun t440 => ((laws_eqIntS.f kj20 t420 t440).bind fun t443 => (if t443 = true then ((laws_markFlyPath.f kj20 t409 t410 t411 t414 t415 1).bind fun bt444 => ((laws_markIntS.f kj20 t417 bt444.1).bind fun bt446 => ((laws_markIntS.f kj20 t420 bt446.1).bind fun bt448 => (if bt448.1 < 0 then (laws_FnExactFlyGo.j1 kj20 l1 l2 t405 t408 t423 true a0_0 a0_1 l0_2 a0_3 a0_4) else ((laws_eqIntS.f kj20 t423 t405).bind fun t450 => (if t450 = true then (laws_FnExactFlyGo.j1 kj20 l1 l2 t405 t408 t423 (t426 != t408) a0_0 a0_1 l0_2 a0_3 a0_4) else (laws_FnExactFlyGo.j1 kj20 l1 l2 t405 t408 t423 true a0_0 a0_1 l0_2 a0_3 a0_4))))))) else (some false)))) else (some false)) = some r := H
   have A56 := zA A560
   clear A560
   by_cases c57 : t439 = true
   rotate_left
   ·replace c57 := Bool.eq_false_iff.mpr c57
    subst c57
    have H1 : (some false) = some r := by rw [if_neg (show ¬ (false = true) by decide)] at H; exact H
    clear H
    have H := H1
    clear H1
    obtain rfl := Option.some.inj H
    try go_wp2
    replace HO_8 := zA (Kd.R_drew HO_8.out)
    replace HO_11 := zA (Kd.R_drew HO_11.out)
    replace HO_12 := zA (Kd.R_drew HO_12.out)
    replace HO_13 := zA (Kd.R_drew HO_13.out)
    replace HO_417002 := zA (Kd.R_drew HO_417002.out)
    replace BK390 := zA (blk_drew BK390.out)
    replace BK416 := zA (blk_drew BK416.out)
    replace HB := zA (below_drew1 HB.out)
    refine start_ (n := 5) (S := fun w' => w'.cell? ⟨gb416, 0, none⟩ = some (.int .i64 t409) ∧ w'.cell? ⟨gb416, 1, none⟩ = some (.int .i64 t410) ∧ w'.cell? ⟨gb416, 2, none⟩ = some (.slice Ao38 t411.length co38) ∧ w'.cell? ⟨gb416, 3, none⟩ = some (.int .i64 t414) ∧ w'.cell? ⟨gb416, 4, none⟩ = some (.int .i64 t415) ∧ w'.cell? ⟨gb390, 0, none⟩ = some (.int .i64 a0_0) ∧ w'.cell? ⟨gb390, 1, none⟩ = some (.int .i64 a0_1) ∧ w'.cell? ⟨gb390, 2, none⟩ = some (.slice A0_2 l0_2.length c0_2) ∧ w'.cell? ⟨gb390, 3, none⟩ = some (.int .i64 a0_3) ∧ w'.cell? ⟨gb390, 4, none⟩ = some (.int .i64 a0_4)) (ds := []) #[F,F,F,F,F] (by kernel_rfl) rfl rfl ⟨zc0 BK416, zc1 BK416, zc2 BK416, zc3 BK416, zc4 BK416, zc0 BK390, zc1 BK390, zc2 BK390, zc3 BK390, zc4 BK390⟩ (fun hHeld => ?_)
    generalize wc.drew = w128 at HO_8 HO_11 HO_12 HO_13 HO_417002 BK390 BK416 HB hHeld ⊢
    refine take_ (i := 0) (N := some 63) (v := ?_) (a' := ?_) #[T,F,F,F,F] rfl rfl (by kernel_rfl) (fun _ _ _ h => h) (Or.inl ⟨by rfl, ?_⟩) hHeld ?_ ?_; rotate_left; exact zt10; rotate_left; exact zput
    refine take_ (i := 1) (N := some 64) (v := ?_) (a' := ?_) #[T,T,F,F,F] rfl rfl (by kernel_rfl) (fun _ _ _ h => h) (Or.inl ⟨by rfl, ?_⟩) hHeld ?_ ?_; rotate_left; exact zt10; rotate_left; exact zput
    refine one_ (i := 2) (N := some 65) #[T,T,T,F,F] rfl rfl (by kernel_rfl) (by decide) (fun K hK => ?_)
    refine zgo Try.func17 #[.agg #[.int .i64 a0_0, .int .i64 a0_1, .slice A0_2 l0_2.length c0_2, .int .i64 a0_3, .int .i64 a0_4]] ?_
    with_reducible refine (laws_toFlyPath.calls kj20 a0_0 a0_1 _ _ l0_2 a0_3 a0_4 t428 t429 t430 t433 t434 _ ?side1 ?side2 A52.out).mono ?_
    (case side1 => exact zC HR0_2 HB)
    (case side2 => exact HC0_2.out)
    rintro e w129 ⟨v431, rfl, ho0, hb⟩
    refine ⟨_, rfl, ?_⟩
    have HO432 := zA (Kd.R_lower (Kd.R_new' ho0 (Kd.R_lt (zr HO_417002))) (below_size (zs2 HB GE390 GE416)))
    replace HO_8 := zA (Kd.R_below (zr HO_8) hb)
    replace HO_11 := zA (Kd.R_below (zr HO_11) hb)
    replace HO_12 := zA (Kd.R_below (zr HO_12) hb)
    replace HO_13 := zA (Kd.R_below (zr HO_13) hb)
    replace HO_417002 := zA (Kd.R_elder' (zr HO_417002) (Kd.R_base ho0) hb)
    replace BK390 := zb BK390 hb
    replace BK416 := zb BK416 hb
    replace HB := zE (zs2 HB GE390 GE416) hb
    (try clear hb)
    (try clear hb2)
    (try clear hk)
    (try clear hi)
    (try clear ho0)
    obtain ⟨Ao130, co130, eo130⟩ := Kd.R_slice HO432.out
    (first | subst eo130 | (injection eo130 with f1_ f2_ f3_; have f4_ := f1_.symm; have f5_ := f3_.symm; clear f1_ f2_ f3_; subst f4_; subst f5_))
    refine hK.out _ _ ⟨zc0 BK416, zc1 BK416, zc2 BK416, zc3 BK416, zc4 BK416, zc0 BK390, zc1 BK390, zc2 BK390, zc3 BK390, zc4 BK390⟩ (fun hHeld => ?_)
    clear hK K
    refine zN ?_
    refine one_ (i := 3) (N := some 66) #[T,T,T,T,F] rfl rfl (by kernel_rfl) (by decide) (fun K hK => ?_)
    refine zgo Try.func21 #[.agg #[.int .i64 t409, .int .i64 t410, .slice Ao38 t411.length co38, .int .i64 t414, .int .i64 t415], .agg #[.int .i64 t428, .int .i64 t429, .slice Ao130 t430.length co130, .int .i64 t433, .int .i64 t434]] ?_
    with_reducible refine (laws_eqFlyPath.calls kj20 t409 t410 _ _ t411 t414 t415 t428 t429 _ _ t430 t433 t434 true _ ?side1 ?side2 ?side3 ?side4 A53.out).mono ?_
    (case side1 => repeat (first | exact (Kd.R_reads' HO_417002.out).2.2 | (with_reducible refine Kd.C_alloc ?_ _) | (with_reducible refine Kd.C_drewN ?_ _) | (with_reducible refine Kd.C_drew ?_)))
    (case side2 => exact (Kd.R_reads' HO_417002.out).2.1)
    (case side3 => repeat (first | exact (Kd.R_reads' HO432.out).2.2 | (with_reducible refine Kd.C_alloc ?_ _) | (with_reducible refine Kd.C_drewN ?_ _) | (with_reducible refine Kd.C_drew ?_)))
    (case side4 => exact (Kd.R_reads' HO432.out).2.1)
    rintro e w131 ⟨rfl, hb⟩
    refine ⟨_, rfl, ?_⟩
    replace HO_8 := zA (Kd.R_below (zr HO_8) hb)
    replace HO_11 := zA (Kd.R_below (zr HO_11) hb)
    replace HO_12 := zA (Kd.R_below (zr HO_12) hb)
    replace HO_13 := zA (Kd.R_below (zr HO_13) hb)
    replace HO_417002 := zA (Kd.R_below (zr HO_417002) hb)
    replace HO432 := zA (Kd.R_below (zr HO432) hb)
    replace BK390 := zb BK390 hb
    replace BK416 := zb BK416 hb
    replace HB := zE (zs2 HB GE390 GE416) hb
    (try clear hb)
    (try clear hb2)
    (try clear hk)
    (try clear hi)
    refine hK.out _ _ ⟨zc0 BK416, zc1 BK416, zc2 BK416, zc3 BK416, zc4 BK416, zc0 BK390, zc1 BK390, zc2 BK390, zc3 BK390, zc4 BK390⟩ (fun hHeld => ?_)
    clear hK K
    refine zN ?_
    refine zp 4 ?_
    refine done_ (by kernel_rfl) ?_
    try go_wp2_with (first | ((with_reducible refine gate_callee (f := 18) rfl ?_); refine zgl (N := some 70) Try.func18 #[.slice A1 l1.length c1] ?_; (with_reducible refine (laws_toIntS.calls kj20 _ _ l1 t436 _ ?side1 ?side2 A55.out).mono ?_); (case side1 => exact zC HR1 HB); (case side2 => exact HC1.out); rintro e w132 ⟨v437, rfl, ho0, hb⟩; refine ⟨_, rfl, ?_⟩; have HO438 := zA (Kd.R_lower (Kd.R_new' (Kd.R_new' (Kd.R_new' (Kd.R_new' ho0 (Kd.R_lt (zr HO_8))) (Kd.R_lt (zr HO_11))) (Kd.R_lt (zr HO_12))) (Kd.R_lt (zr HO_13))) (below_size (zs2 HB GE390 GE416))); replace HO_8 := zA (Kd.R_elder' (zr HO_8) (Kd.R_base ho0) hb); replace HO_11 := zA (Kd.R_elder' (zr HO_11) (Kd.R_base ho0) hb); replace HO_12 := zA (Kd.R_elder' (zr HO_12) (Kd.R_base ho0) hb); replace HO_13 := zA (Kd.R_elder' (zr HO_13) (Kd.R_base ho0) hb); replace HO_417002 := zA (Kd.R_below (zr HO_417002) hb); replace HO432 := zA (Kd.R_below (zr HO432) hb); replace BK390 := zb BK390 hb; replace BK416 := zb BK416 hb; replace HB := zE (zs2 HB GE390 GE416) hb; (try clear hb); (try clear hb2); (try clear hk); (try clear hi); (try clear ho0); obtain ⟨Ao133, co133, eo133⟩ := Kd.R_slice HO438.out; subst eo133) | ((with_reducible refine gate_callee (f := 20) rfl ?_); refine zgl (N := some 71) Try.func20 #[.slice Ao42 t417.length co42, .slice Ao133 t436.length co133] ?_; (with_reducible refine (laws_eqIntS.calls kj20 _ _ t417 _ _ t436 false _ ?side1 ?side2 ?side3 ?side4 A56.out).mono ?_); (case side1 => repeat (first | exact (Kd.R_reads' HO_11.out).2.2 | (with_reducible refine Kd.C_alloc ?_ _) | (with_reducible refine Kd.C_drewN ?_ _) | (with_reducible refine Kd.C_drew ?_))); (case side2 => exact (Kd.R_reads' HO_11.out).2.1); (case side3 => repeat (first | exact (Kd.R_reads' HO438.out).2.2 | (with_reducible refine Kd.C_alloc ?_ _) | (with_reducible refine Kd.C_drewN ?_ _) | (with_reducible refine Kd.C_drew ?_))); (case side4 => exact (Kd.R_reads' HO438.out).2.1); rintro e w' ⟨rfl, ⟨nd, rfl⟩⟩; refine ⟨_, rfl, ?_⟩))
    go_ret
    exact ⟨ze, zs2 HB GE390 GE416⟩
   subst c57
   have H1 : ((laws_toIntS.f kj20 l2).bind fun t440 => ((laws_eqIntS.f kj20 t420 t440).bind fun t443 => (if t443 = true then ((laws_markFlyPath.f kj20 t409 t410 t411 t414 t415 1).bind fun bt444 => ((laws_markIntS.f kj20 t417 bt444.1).bind fun bt446 => ((laws_markIntS.f kj20 t420 bt446.1).bind fun bt448 => (if bt448.1 < 0 then (laws_FnExactFlyGo.j1 kj20 l1 l2 t405 t408 t423 true a0_0 a0_1 l0_2 a0_3 a0_4) else ((laws_eqIntS.f kj20 t423 t405).bind fun t450 => (if t450 = true then (laws_FnExactFlyGo.j1 kj20 l1 l2 t405 t408 t423 (t426 != t408) a0_0 a0_1 l0_2 a0_3 a0_4) else (laws_FnExactFlyGo.j1 kj20 l1 l2 t405 t408 t423 true a0_0 a0_1 l0_2 a0_3 a0_4))))))) else (some false)))) = some r := by rw [if_pos rfl] at H; exact H
   clear H
   have H := H1
   clear H1
   replace H := zbd H; obtain ⟨t440, A58, H⟩ := H
   replace H := Option.bind_eq_some_iff.mp H
   obtain ⟨t443, A590, H⟩ := H
   replace H : (if t443 = true then ((laws_markFlyPath.f kj20 t409 t410 t411 t414 t415 1).bind fun bt444 => ((laws_markIntS.f kj20 t417 bt444.1).bind fun bt446 => ((laws_markIntS.f kj20 t420 bt446.1).bind fun bt448 => (if bt448.1 < 0 then (laws_FnExactFlyGo.j1 kj20 l1 l2 t405 t408 t423 true a0_0 a0_1 l0_2 a0_3 a0_4) else ((laws_eqIntS.f kj20 t423 t405).bind fun t450 => (if t450 = true then (laws_FnExactFlyGo.j1 kj20 l1 l2 t405 t408 t423 (t426 != t408) a0_0 a0_1 l0_2 a0_3 a0_4) else (laws_FnExactFlyGo.j1 kj20 l1 l2 t405 t408 t423 true a0_0 a0_1 l0_2 a0_3 a0_4))))))) else (some false)) = some r := H
   have A59 := zA A590
   clear A590
   by_cases c60 : t443 = true
   rotate_left
   ·replace c60 := Bool.eq_false_iff.mpr c60
    subst c60
    have H1 : (some false) = some r := by rw [if_neg (show ¬ (false = true) by decide)] at H; exact H
    clear H
    have H := H1
    clear H1
    obtain rfl := Option.some.inj H
    try go_wp2
    replace HO_8 := zA (Kd.R_drew HO_8.out)
    replace HO_11 := zA (Kd.R_drew HO_11.out)
    replace HO_12 := zA (Kd.R_drew HO_12.out)
    replace HO_13 := zA (Kd.R_drew HO_13.out)
    replace HO_417002 := zA (Kd.R_drew HO_417002.out)
    replace BK390 := zA (blk_drew BK390.out)
    replace BK416 := zA (blk_drew BK416.out)
    replace HB := zA (below_drew1 HB.out)
    refine start_ (n := 5) (S := fun w' => w'.cell? ⟨gb416, 0, none⟩ = some (.int .i64 t409) ∧ w'.cell? ⟨gb416, 1, none⟩ = some (.int .i64 t410) ∧ w'.cell? ⟨gb416, 2, none⟩ = some (.slice Ao38 t411.length co38) ∧ w'.cell? ⟨gb416, 3, none⟩ = some (.int .i64 t414) ∧ w'.cell? ⟨gb416, 4, none⟩ = some (.int .i64 t415) ∧ w'.cell? ⟨gb390, 0, none⟩ = some (.int .i64 a0_0) ∧ w'.cell? ⟨gb390, 1, none⟩ = some (.int .i64 a0_1) ∧ w'.cell? ⟨gb390, 2, none⟩ = some (.slice A0_2 l0_2.length c0_2) ∧ w'.cell? ⟨gb390, 3, none⟩ = some (.int .i64 a0_3) ∧ w'.cell? ⟨gb390, 4, none⟩ = some (.int .i64 a0_4)) (ds := []) #[F,F,F,F,F] (by kernel_rfl) rfl rfl ⟨zc0 BK416, zc1 BK416, zc2 BK416, zc3 BK416, zc4 BK416, zc0 BK390, zc1 BK390, zc2 BK390, zc3 BK390, zc4 BK390⟩ (fun hHeld => ?_)
    generalize wc.drew = w120 at HO_8 HO_11 HO_12 HO_13 HO_417002 BK390 BK416 HB hHeld ⊢
    refine take_ (i := 0) (N := some 63) (v := ?_) (a' := ?_) #[T,F,F,F,F] rfl rfl (by kernel_rfl) (fun _ _ _ h => h) (Or.inl ⟨by rfl, ?_⟩) hHeld ?_ ?_; rotate_left; exact zt10; rotate_left; exact zput
    refine take_ (i := 1) (N := some 64) (v := ?_) (a' := ?_) #[T,T,F,F,F] rfl rfl (by kernel_rfl) (fun _ _ _ h => h) (Or.inl ⟨by rfl, ?_⟩) hHeld ?_ ?_; rotate_left; exact zt10; rotate_left; exact zput
    refine one_ (i := 2) (N := some 65) #[T,T,T,F,F] rfl rfl (by kernel_rfl) (by decide) (fun K hK => ?_)
    refine zgo Try.func17 #[.agg #[.int .i64 a0_0, .int .i64 a0_1, .slice A0_2 l0_2.length c0_2, .int .i64 a0_3, .int .i64 a0_4]] ?_
    with_reducible refine (laws_toFlyPath.calls kj20 a0_0 a0_1 _ _ l0_2 a0_3 a0_4 t428 t429 t430 t433 t434 _ ?side1 ?side2 A52.out).mono ?_
    (case side1 => exact zC HR0_2 HB)
    (case side2 => exact HC0_2.out)
    rintro e w121 ⟨v431, rfl, ho0, hb⟩
    refine ⟨_, rfl, ?_⟩
    have HO432 := zA (Kd.R_lower (Kd.R_new' ho0 (Kd.R_lt (zr HO_417002))) (below_size (zs2 HB GE390 GE416)))
    replace HO_8 := zA (Kd.R_below (zr HO_8) hb)
    replace HO_11 := zA (Kd.R_below (zr HO_11) hb)
    replace HO_12 := zA (Kd.R_below (zr HO_12) hb)
    replace HO_13 := zA (Kd.R_below (zr HO_13) hb)
    replace HO_417002 := zA (Kd.R_elder' (zr HO_417002) (Kd.R_base ho0) hb)
    replace BK390 := zb BK390 hb
    replace BK416 := zb BK416 hb
    replace HB := zE (zs2 HB GE390 GE416) hb
    (try clear hb)
    (try clear hb2)
    (try clear hk)
    (try clear hi)
    (try clear ho0)
    obtain ⟨Ao122, co122, eo122⟩ := Kd.R_slice HO432.out
    (first | subst eo122 | (injection eo122 with f1_ f2_ f3_; have f4_ := f1_.symm; have f5_ := f3_.symm; clear f1_ f2_ f3_; subst f4_; subst f5_))
    refine hK.out _ _ ⟨zc0 BK416, zc1 BK416, zc2 BK416, zc3 BK416, zc4 BK416, zc0 BK390, zc1 BK390, zc2 BK390, zc3 BK390, zc4 BK390⟩ (fun hHeld => ?_)
    clear hK K
    refine zN ?_
    refine one_ (i := 3) (N := some 66) #[T,T,T,T,F] rfl rfl (by kernel_rfl) (by decide) (fun K hK => ?_)
    refine zgo Try.func21 #[.agg #[.int .i64 t409, .int .i64 t410, .slice Ao38 t411.length co38, .int .i64 t414, .int .i64 t415], .agg #[.int .i64 t428, .int .i64 t429, .slice Ao122 t430.length co122, .int .i64 t433, .int .i64 t434]] ?_
    with_reducible refine (laws_eqFlyPath.calls kj20 t409 t410 _ _ t411 t414 t415 t428 t429 _ _ t430 t433 t434 true _ ?side1 ?side2 ?side3 ?side4 A53.out).mono ?_
    (case side1 => repeat (first | exact (Kd.R_reads' HO_417002.out).2.2 | (with_reducible refine Kd.C_alloc ?_ _) | (with_reducible refine Kd.C_drewN ?_ _) | (with_reducible refine Kd.C_drew ?_)))
    (case side2 => exact (Kd.R_reads' HO_417002.out).2.1)
    (case side3 => repeat (first | exact (Kd.R_reads' HO432.out).2.2 | (with_reducible refine Kd.C_alloc ?_ _) | (with_reducible refine Kd.C_drewN ?_ _) | (with_reducible refine Kd.C_drew ?_)))
    (case side4 => exact (Kd.R_reads' HO432.out).2.1)
    rintro e w123 ⟨rfl, hb⟩
    refine ⟨_, rfl, ?_⟩
    replace HO_8 := zA (Kd.R_below (zr HO_8) hb)
    replace HO_11 := zA (Kd.R_below (zr HO_11) hb)
    replace HO_12 := zA (Kd.R_below (zr HO_12) hb)
    replace HO_13 := zA (Kd.R_below (zr HO_13) hb)
    replace HO_417002 := zA (Kd.R_below (zr HO_417002) hb)
    replace HO432 := zA (Kd.R_below (zr HO432) hb)
    replace BK390 := zb BK390 hb
    replace BK416 := zb BK416 hb
    replace HB := zE (zs2 HB GE390 GE416) hb
    (try clear hb)
    (try clear hb2)
    (try clear hk)
    (try clear hi)
    refine hK.out _ _ ⟨zc0 BK416, zc1 BK416, zc2 BK416, zc3 BK416, zc4 BK416, zc0 BK390, zc1 BK390, zc2 BK390, zc3 BK390, zc4 BK390⟩ (fun hHeld => ?_)
    clear hK K
    refine zN ?_
    refine zp 4 ?_
    refine done_ (by kernel_rfl) ?_
    try go_wp2_with (first | ((with_reducible refine gate_callee (f := 18) rfl ?_); refine zgl (N := some 70) Try.func18 #[.slice A1 l1.length c1] ?_; (with_reducible refine (laws_toIntS.calls kj20 _ _ l1 t436 _ ?side1 ?side2 A55.out).mono ?_); (case side1 => exact zC HR1 HB); (case side2 => exact HC1.out); rintro e w124 ⟨v437, rfl, ho0, hb⟩; refine ⟨_, rfl, ?_⟩; have HO438 := zA (Kd.R_lower (Kd.R_new' (Kd.R_new' (Kd.R_new' (Kd.R_new' ho0 (Kd.R_lt (zr HO_8))) (Kd.R_lt (zr HO_11))) (Kd.R_lt (zr HO_12))) (Kd.R_lt (zr HO_13))) (below_size (zs2 HB GE390 GE416))); replace HO_8 := zA (Kd.R_elder' (zr HO_8) (Kd.R_base ho0) hb); replace HO_11 := zA (Kd.R_elder' (zr HO_11) (Kd.R_base ho0) hb); replace HO_12 := zA (Kd.R_elder' (zr HO_12) (Kd.R_base ho0) hb); replace HO_13 := zA (Kd.R_elder' (zr HO_13) (Kd.R_base ho0) hb); replace HO_417002 := zA (Kd.R_below (zr HO_417002) hb); replace HO432 := zA (Kd.R_below (zr HO432) hb); replace BK390 := zb BK390 hb; replace BK416 := zb BK416 hb; replace HB := zE (zs2 HB GE390 GE416) hb; (try clear hb); (try clear hb2); (try clear hk); (try clear hi); (try clear ho0); obtain ⟨Ao125, co125, eo125⟩ := Kd.R_slice HO438.out; subst eo125) | ((with_reducible refine gate_callee (f := 20) rfl ?_); refine zgl (N := some 71) Try.func20 #[.slice Ao42 t417.length co42, .slice Ao125 t436.length co125] ?_; (with_reducible refine (laws_eqIntS.calls kj20 _ _ t417 _ _ t436 true _ ?side1 ?side2 ?side3 ?side4 A56.out).mono ?_); (case side1 => repeat (first | exact (Kd.R_reads' HO_11.out).2.2 | (with_reducible refine Kd.C_alloc ?_ _) | (with_reducible refine Kd.C_drewN ?_ _) | (with_reducible refine Kd.C_drew ?_))); (case side2 => exact (Kd.R_reads' HO_11.out).2.1); (case side3 => repeat (first | exact (Kd.R_reads' HO438.out).2.2 | (with_reducible refine Kd.C_alloc ?_ _) | (with_reducible refine Kd.C_drewN ?_ _) | (with_reducible refine Kd.C_drew ?_))); (case side4 => exact (Kd.R_reads' HO438.out).2.1); rintro e w' ⟨rfl, ⟨nd, rfl⟩⟩; refine ⟨_, rfl, ?_⟩) | ((with_reducible refine gate_callee (f := 18) rfl ?_); refine zgl (N := some 75) Try.func18 #[.slice A2 l2.length c2] ?_; (with_reducible refine (laws_toIntS.calls kj20 _ _ l2 t440 _ ?side1 ?side2 A58.out).mono ?_); (case side1 => repeat (first | exact (Kd.C_below HR2.out (zs2 HB GE390 GE416)) | (with_reducible refine Kd.C_alloc ?_ _) | (with_reducible refine Kd.C_drewN ?_ _) | (with_reducible refine Kd.C_drew ?_))); (case side2 => exact HC2.out); rintro e w126 ⟨v441, rfl, ho0, hb⟩; refine ⟨_, rfl, ?_⟩; have HO442 := zA (Kd.R_lower (Kd.R_new' (Kd.R_new' (Kd.R_new' (Kd.R_new' (Kd.R_new' ho0 (Kd.R_lt (zr HO_8))) (Kd.R_lt (zr HO_11))) (Kd.R_lt (zr HO_12))) (Kd.R_lt (zr HO_13))) (Kd.R_lt (zr HO438))) (below_size (zs2 HB GE390 GE416))); replace HO_8 := zA (Kd.R_elder' (zr HO_8) (Kd.R_base ho0) hb); replace HO_11 := zA (Kd.R_elder' (zr HO_11) (Kd.R_base ho0) hb); replace HO_12 := zA (Kd.R_elder' (zr HO_12) (Kd.R_base ho0) hb); replace HO_13 := zA (Kd.R_elder' (zr HO_13) (Kd.R_base ho0) hb); replace HO_417002 := zA (Kd.R_below (zr HO_417002) hb); replace HO432 := zA (Kd.R_below (zr HO432) hb); replace HO438 := zA (Kd.R_elder' (zr HO438) (Kd.R_base ho0) hb); replace BK390 := zb BK390 hb; replace BK416 := zb BK416 hb; replace HB := zE (zs2 HB GE390 GE416) hb; (try clear hb); (try clear hb2); (try clear hk); (try clear hi); (try clear ho0); obtain ⟨Ao127, co127, eo127⟩ := Kd.R_slice HO442.out; subst eo127) | ((with_reducible refine gate_callee (f := 20) rfl ?_); refine zgl (N := some 76) Try.func20 #[.slice Ao43 t420.length co43, .slice Ao127 t440.length co127] ?_; (with_reducible refine (laws_eqIntS.calls kj20 _ _ t420 _ _ t440 false _ ?side1 ?side2 ?side3 ?side4 A59.out).mono ?_); (case side1 => repeat (first | exact (Kd.R_reads' HO_12.out).2.2 | (with_reducible refine Kd.C_alloc ?_ _) | (with_reducible refine Kd.C_drewN ?_ _) | (with_reducible refine Kd.C_drew ?_))); (case side2 => exact (Kd.R_reads' HO_12.out).2.1); (case side3 => repeat (first | exact (Kd.R_reads' HO442.out).2.2 | (with_reducible refine Kd.C_alloc ?_ _) | (with_reducible refine Kd.C_drewN ?_ _) | (with_reducible refine Kd.C_drew ?_))); (case side4 => exact (Kd.R_reads' HO442.out).2.1); rintro e w' ⟨rfl, ⟨nd, rfl⟩⟩; refine ⟨_, rfl, ?_⟩))
    go_ret
    exact ⟨ze, zs2 HB GE390 GE416⟩
   subst c60
   have H1 : ((laws_markFlyPath.f kj20 t409 t410 t411 t414 t415 1).bind fun bt444 => ((laws_markIntS.f kj20 t417 bt444.1).bind fun bt446 => ((laws_markIntS.f kj20 t420 bt446.1).bind fun bt448 => (if bt448.1 < 0 then (laws_FnExactFlyGo.j1 kj20 l1 l2 t405 t408 t423 true a0_0 a0_1 l0_2 a0_3 a0_4) else ((laws_eqIntS.f kj20 t423 t405).bind fun t450 => (if t450 = true then (laws_FnExactFlyGo.j1 kj20 l1 l2 t405 t408 t423 (t426 != t408) a0_0 a0_1 l0_2 a0_3 a0_4) else (laws_FnExactFlyGo.j1 kj20 l1 l2 t405 t408 t423 true a0_0 a0_1 l0_2 a0_3 a0_4))))))) = some r := by rw [if_pos rfl] at H; exact H
   clear H
   have H := H1
   clear H1
   replace H := Option.bind_eq_some_iff.mp H
   obtain ⟨⟨t444, t445⟩, A610, H⟩ := H
   replace H : ((laws_markIntS.f kj20 t417 t444).bind fun bt446 => ((laws_markIntS.f kj20 t420 bt446.1).bind fun bt448 => (if bt448.1 < 0 then (laws_FnExactFlyGo.j1 kj20 l1 l2 t405 t408 t423 true a0_0 a0_1 l0_2 a0_3 a0_4) else ((laws_eqIntS.f kj20 t423 t405).bind fun t450 => (if t450 = true then (laws_FnExactFlyGo.j1 kj20 l1 l2 t405 t408 t423 (t426 != t408) a0_0 a0_1 l0_2 a0_3 a0_4) else (laws_FnExactFlyGo.j1 kj20 l1 l2 t405 t408 t423 true a0_0 a0_1 l0_2 a0_3 a0_4)))))) = some r := H
   have A61 := zA A610
   clear A610
   replace H := Option.bind_eq_some_iff.mp H
   obtain ⟨⟨t446, t447⟩, A620, H⟩ := H
   replace H : ((laws_markIntS.f kj20 t420 t446).bind fun bt448 => (if bt448.1 < 0 then (laws_FnExactFlyGo.j1 kj20 l1 l2 t405 t408 t423 true a0_0 a0_1 l0_2 a0_3 a0_4) else ((laws_eqIntS.f kj20 t423 t405).bind fun t450 => (if t450 = true then (laws_FnExactFlyGo.j1 kj20 l1 l2 t405 t408 t423 (t426 != t408) a0_0 a0_1 l0_2 a0_3 a0_4) else (laws_FnExactFlyGo.j1 kj20 l1 l2 t405 t408 t423 true a0_0 a0_1 l0_2 a0_3 a0_4))))) = some r := H
   have A62 := zA A620
   clear A620
   replace H := Option.bind_eq_some_iff.mp H
   obtain ⟨⟨t448, t449⟩, A630, H⟩ := H
   replace H : (if t448 < 0 then (laws_FnExactFlyGo.j1 kj20 l1 l2 t405 t408 t423 true a0_0 a0_1 l0_2 a0_3 a0_4) else ((laws_eqIntS.f kj20 t423 t405).bind fun t450 => (if t450 = true then (laws_FnExactFlyGo.j1 kj20 l1 l2 t405 t408 t423 (t426 != t408) a0_0 a0_1 l0_2 a0_3 a0_4) else (laws_FnExactFlyGo.j1 kj20 l1 l2 t405 t408 t423 true a0_0 a0_1 l0_2 a0_3 a0_4)))) = some r := H
   have A63 := zA A630
   clear A630
   have HC64 := zA H
   clear H
   try go_wp2
   replace HO_8 := zA (Kd.R_drew HO_8.out)
   replace HO_11 := zA (Kd.R_drew HO_11.out)
   replace HO_12 := zA (Kd.R_drew HO_12.out)
   replace HO_13 := zA (Kd.R_drew HO_13.out)
   replace HO_417002 := zA (Kd.R_drew HO_417002.out)
   replace BK390 := zA (blk_drew BK390.out)
   replace BK416 := zA (blk_drew BK416.out)
   replace HB := zA (below_drew1 HB.out)
   refine start_ (n := 5) (S := fun w' => w'.cell? ⟨gb416, 0, none⟩ = some (.int .i64 t409) ∧ w'.cell? ⟨gb416, 1, none⟩ = some (.int .i64 t410) ∧ w'.cell? ⟨gb416, 2, none⟩ = some (.slice Ao38 t411.length co38) ∧ w'.cell? ⟨gb416, 3, none⟩ = some (.int .i64 t414) ∧ w'.cell? ⟨gb416, 4, none⟩ = some (.int .i64 t415) ∧ w'.cell? ⟨gb390, 0, none⟩ = some (.int .i64 a0_0) ∧ w'.cell? ⟨gb390, 1, none⟩ = some (.int .i64 a0_1) ∧ w'.cell? ⟨gb390, 2, none⟩ = some (.slice A0_2 l0_2.length c0_2) ∧ w'.cell? ⟨gb390, 3, none⟩ = some (.int .i64 a0_3) ∧ w'.cell? ⟨gb390, 4, none⟩ = some (.int .i64 a0_4)) (ds := []) #[F,F,F,F,F] (by kernel_rfl) rfl rfl ⟨zc0 BK416, zc1 BK416, zc2 BK416, zc3 BK416, zc4 BK416, zc0 BK390, zc1 BK390, zc2 BK390, zc3 BK390, zc4 BK390⟩ (fun hHeld => ?_)
   generalize wc.drew = w65 at HO_8 HO_11 HO_12 HO_13 HO_417002 BK390 BK416 HB hHeld ⊢
   refine take_ (i := 0) (N := some 63) (v := ?_) (a' := ?_) #[T,F,F,F,F] rfl rfl (by kernel_rfl) (fun _ _ _ h => h) (Or.inl ⟨by rfl, ?_⟩) hHeld ?_ ?_; rotate_left; exact zt10; rotate_left; exact zput
   refine take_ (i := 1) (N := some 64) (v := ?_) (a' := ?_) #[T,T,F,F,F] rfl rfl (by kernel_rfl) (fun _ _ _ h => h) (Or.inl ⟨by rfl, ?_⟩) hHeld ?_ ?_; rotate_left; exact zt10; rotate_left; exact zput
   refine one_ (i := 2) (N := some 65) #[T,T,T,F,F] rfl rfl (by kernel_rfl) (by decide) (fun K hK => ?_)
   refine zgo Try.func17 #[.agg #[.int .i64 a0_0, .int .i64 a0_1, .slice A0_2 l0_2.length c0_2, .int .i64 a0_3, .int .i64 a0_4]] ?_
   with_reducible refine (laws_toFlyPath.calls kj20 a0_0 a0_1 _ _ l0_2 a0_3 a0_4 t428 t429 t430 t433 t434 _ ?side1 ?side2 A52.out).mono ?_
   (case side1 => exact zC HR0_2 HB)
   (case side2 => exact HC0_2.out)
   rintro e w66 ⟨v431, rfl, ho0, hb⟩
   refine ⟨_, rfl, ?_⟩
   have HO432 := zA (Kd.R_lower (Kd.R_new' ho0 (Kd.R_lt (zr HO_417002))) (below_size (zs2 HB GE390 GE416)))
   replace HO_8 := zA (Kd.R_below (zr HO_8) hb)
   replace HO_11 := zA (Kd.R_below (zr HO_11) hb)
   replace HO_12 := zA (Kd.R_below (zr HO_12) hb)
   replace HO_13 := zA (Kd.R_below (zr HO_13) hb)
   replace HO_417002 := zA (Kd.R_elder' (zr HO_417002) (Kd.R_base ho0) hb)
   replace BK390 := zb BK390 hb
   replace BK416 := zb BK416 hb
   replace HB := zE (zs2 HB GE390 GE416) hb
   (try clear hb)
   (try clear hb2)
   (try clear hk)
   (try clear hi)
   (try clear ho0)
   obtain ⟨Ao67, co67, eo67⟩ := Kd.R_slice HO432.out
   (first | subst eo67 | (injection eo67 with f1_ f2_ f3_; have f4_ := f1_.symm; have f5_ := f3_.symm; clear f1_ f2_ f3_; subst f4_; subst f5_))
   refine hK.out _ _ ⟨zc0 BK416, zc1 BK416, zc2 BK416, zc3 BK416, zc4 BK416, zc0 BK390, zc1 BK390, zc2 BK390, zc3 BK390, zc4 BK390⟩ (fun hHeld => ?_)
   clear hK K
   refine zN ?_
   refine one_ (i := 3) (N := some 66) #[T,T,T,T,F] rfl rfl (by kernel_rfl) (by decide) (fun K hK => ?_)
   refine zgo Try.func21 #[.agg #[.int .i64 t409, .int .i64 t410, .slice Ao38 t411.length co38, .int .i64 t414, .int .i64 t415], .agg #[.int .i64 t428, .int .i64 t429, .slice Ao67 t430.length co67, .int .i64 t433, .int .i64 t434]] ?_
   with_reducible refine (laws_eqFlyPath.calls kj20 t409 t410 _ _ t411 t414 t415 t428 t429 _ _ t430 t433 t434 true _ ?side1 ?side2 ?side3 ?side4 A53.out).mono ?_
   (case side1 => repeat (first | exact (Kd.R_reads' HO_417002.out).2.2 | (with_reducible refine Kd.C_alloc ?_ _) | (with_reducible refine Kd.C_drewN ?_ _) | (with_reducible refine Kd.C_drew ?_)))
   (case side2 => exact (Kd.R_reads' HO_417002.out).2.1)
   (case side3 => repeat (first | exact (Kd.R_reads' HO432.out).2.2 | (with_reducible refine Kd.C_alloc ?_ _) | (with_reducible refine Kd.C_drewN ?_ _) | (with_reducible refine Kd.C_drew ?_)))
   (case side4 => exact (Kd.R_reads' HO432.out).2.1)
   rintro e w68 ⟨rfl, hb⟩
   refine ⟨_, rfl, ?_⟩
   replace HO_8 := zA (Kd.R_below (zr HO_8) hb)
   replace HO_11 := zA (Kd.R_below (zr HO_11) hb)
   replace HO_12 := zA (Kd.R_below (zr HO_12) hb)
   replace HO_13 := zA (Kd.R_below (zr HO_13) hb)
   replace HO_417002 := zA (Kd.R_below (zr HO_417002) hb)
   replace HO432 := zA (Kd.R_below (zr HO432) hb)
   replace BK390 := zb BK390 hb
   replace BK416 := zb BK416 hb
   replace HB := zE (zs2 HB GE390 GE416) hb
   (try clear hb)
   (try clear hb2)
   (try clear hk)
   (try clear hi)
   refine hK.out _ _ ⟨zc0 BK416, zc1 BK416, zc2 BK416, zc3 BK416, zc4 BK416, zc0 BK390, zc1 BK390, zc2 BK390, zc3 BK390, zc4 BK390⟩ (fun hHeld => ?_)
   clear hK K
   refine zN ?_
   refine zp 4 ?_
   refine done_ (by kernel_rfl) ?_
   go_upto_region 26 with (first | ((with_reducible refine gate_callee (f := 18) rfl ?_); refine zgl (N := some 70) Try.func18 #[.slice A1 l1.length c1] ?_; (with_reducible refine (laws_toIntS.calls kj20 _ _ l1 t436 _ ?side1 ?side2 A55.out).mono ?_); (case side1 => exact zC HR1 HB); (case side2 => exact HC1.out); rintro e w69 ⟨v437, rfl, ho0, hb⟩; refine ⟨_, rfl, ?_⟩; have HO438 := zA (Kd.R_lower (Kd.R_new' (Kd.R_new' (Kd.R_new' (Kd.R_new' ho0 (Kd.R_lt (zr HO_8))) (Kd.R_lt (zr HO_11))) (Kd.R_lt (zr HO_12))) (Kd.R_lt (zr HO_13))) (below_size (zs2 HB GE390 GE416))); replace HO_8 := zA (Kd.R_elder' (zr HO_8) (Kd.R_base ho0) hb); replace HO_11 := zA (Kd.R_elder' (zr HO_11) (Kd.R_base ho0) hb); replace HO_12 := zA (Kd.R_elder' (zr HO_12) (Kd.R_base ho0) hb); replace HO_13 := zA (Kd.R_elder' (zr HO_13) (Kd.R_base ho0) hb); replace HO_417002 := zA (Kd.R_below (zr HO_417002) hb); replace HO432 := zA (Kd.R_below (zr HO432) hb); replace BK390 := zb BK390 hb; replace BK416 := zb BK416 hb; replace HB := zE (zs2 HB GE390 GE416) hb; (try clear hb); (try clear hb2); (try clear hk); (try clear hi); (try clear ho0); obtain ⟨Ao70, co70, eo70⟩ := Kd.R_slice HO438.out; subst eo70) | ((with_reducible refine gate_callee (f := 20) rfl ?_); refine zgl (N := some 71) Try.func20 #[.slice Ao42 t417.length co42, .slice Ao70 t436.length co70] ?_; (with_reducible refine (laws_eqIntS.calls kj20 _ _ t417 _ _ t436 true _ ?side1 ?side2 ?side3 ?side4 A56.out).mono ?_); (case side1 => repeat (first | exact (Kd.R_reads' HO_11.out).2.2 | (with_reducible refine Kd.C_alloc ?_ _) | (with_reducible refine Kd.C_drewN ?_ _) | (with_reducible refine Kd.C_drew ?_))); (case side2 => exact (Kd.R_reads' HO_11.out).2.1); (case side3 => repeat (first | exact (Kd.R_reads' HO438.out).2.2 | (with_reducible refine Kd.C_alloc ?_ _) | (with_reducible refine Kd.C_drewN ?_ _) | (with_reducible refine Kd.C_drew ?_))); (case side4 => exact (Kd.R_reads' HO438.out).2.1); rintro e w' ⟨rfl, ⟨nd, rfl⟩⟩; refine ⟨_, rfl, ?_⟩) | ((with_reducible refine gate_callee (f := 18) rfl ?_); refine zgl (N := some 75) Try.func18 #[.slice A2 l2.length c2] ?_; (with_reducible refine (laws_toIntS.calls kj20 _ _ l2 t440 _ ?side1 ?side2 A58.out).mono ?_); (case side1 => repeat (first | exact (Kd.C_below HR2.out (zs2 HB GE390 GE416)) | (with_reducible refine Kd.C_alloc ?_ _) | (with_reducible refine Kd.C_drewN ?_ _) | (with_reducible refine Kd.C_drew ?_))); (case side2 => exact HC2.out); rintro e w71 ⟨v441, rfl, ho0, hb⟩; refine ⟨_, rfl, ?_⟩; have HO442 := zA (Kd.R_lower (Kd.R_new' (Kd.R_new' (Kd.R_new' (Kd.R_new' (Kd.R_new' ho0 (Kd.R_lt (zr HO_8))) (Kd.R_lt (zr HO_11))) (Kd.R_lt (zr HO_12))) (Kd.R_lt (zr HO_13))) (Kd.R_lt (zr HO438))) (below_size (zs2 HB GE390 GE416))); replace HO_8 := zA (Kd.R_elder' (zr HO_8) (Kd.R_base ho0) hb); replace HO_11 := zA (Kd.R_elder' (zr HO_11) (Kd.R_base ho0) hb); replace HO_12 := zA (Kd.R_elder' (zr HO_12) (Kd.R_base ho0) hb); replace HO_13 := zA (Kd.R_elder' (zr HO_13) (Kd.R_base ho0) hb); replace HO_417002 := zA (Kd.R_below (zr HO_417002) hb); replace HO432 := zA (Kd.R_below (zr HO432) hb); replace HO438 := zA (Kd.R_elder' (zr HO438) (Kd.R_base ho0) hb); replace BK390 := zb BK390 hb; replace BK416 := zb BK416 hb; replace HB := zE (zs2 HB GE390 GE416) hb; (try clear hb); (try clear hb2); (try clear hk); (try clear hi); (try clear ho0); obtain ⟨Ao72, co72, eo72⟩ := Kd.R_slice HO442.out; subst eo72) | ((with_reducible refine gate_callee (f := 20) rfl ?_); refine zgl (N := some 76) Try.func20 #[.slice Ao43 t420.length co43, .slice Ao72 t440.length co72] ?_; (with_reducible refine (laws_eqIntS.calls kj20 _ _ t420 _ _ t440 true _ ?side1 ?side2 ?side3 ?side4 A59.out).mono ?_); (case side1 => repeat (first | exact (Kd.R_reads' HO_12.out).2.2 | (with_reducible refine Kd.C_alloc ?_ _) | (with_reducible refine Kd.C_drewN ?_ _) | (with_reducible refine Kd.C_drew ?_))); (case side2 => exact (Kd.R_reads' HO_12.out).2.1); (case side3 => repeat (first | exact (Kd.R_reads' HO442.out).2.2 | (with_reducible refine Kd.C_alloc ?_ _) | (with_reducible refine Kd.C_drewN ?_ _) | (with_reducible refine Kd.C_drew ?_))); (case side4 => exact (Kd.R_reads' HO442.out).2.1); rintro e w' ⟨rfl, ⟨nd, rfl⟩⟩; refine ⟨_, rfl, ?_⟩; have hnb73 := NB416_390.out; have hnc73 := NB390_416.out; obtain ⟨hcz74_0, hcz74_1, hcz74_2, hcz74_3, hcz74_4⟩ := zd5 BK416; obtain ⟨hfz74_0, hfz74_1, hfz74_2, hfz74_3, hfz74_4⟩ := zn5 BK416) | ((with_reducible refine gate_callee (f := 22) rfl ?_); refine zgl (N := some 80) Try.func22 #[.agg #[.int .i64 t409, .int .i64 t410, .slice Ao38 t411.length co38, .int .i64 t414, .int .i64 t415], .int .i64 1] ?_; (with_reducible refine (laws_markFlyPath.calls kj20 t409 t410 (fun k_ => some k_ = (.slice Ao38 t411.length co38 : Value).ownBlock) (.slice Ao38 t411.length co38) t411 t414 t415 1 t444 t445 w _ ?side1 ?side2 A61.out).mono ?_); (case side1 => repeat (first | (with_reducible first | exact HB.out | apply below_alloc | apply pw_below_drewN | apply below_drew1 | refine below_set ?_ GE390.out | refine below_set ?_ GE416.out) | exact HB.out)); (case side2 => exact Kd.R_tight rfl HO_417002.out); rintro e w75 ⟨rfl, hy0, hb, hkp⟩; refine ⟨_, rfl, ?_⟩; replace HO_8 := zA (Kd.R_mono (ok' := fun k_ => some k_ ≠ (.slice Ao42 t417.length co42 : Value).ownBlock ∧ some k_ ≠ (.slice Ao43 t420.length co43 : Value).ownBlock ∧ some k_ ≠ (v424 : Value).ownBlock ∧ some k_ ≠ (.slice Ao70 t436.length co70 : Value).ownBlock ∧ some k_ ≠ (.slice Ao72 t440.length co72 : Value).ownBlock) (Kd.R_keptB ((Kd.R_apart' HO_8.out (Kd.R_typed HO_417002.out) (by decide))) hkp (fun k_ hk_ hs_ => (hk_.2) hs_)) (fun k_ hk_ => ⟨hk_.1.1.1.1.1, hk_.1.1.1.1.2.1, hk_.1.1.1.1.2.2, hk_.1.1.1.2, hk_.1.1.2⟩)); replace HO_11 := zA (Kd.R_mono (ok' := fun k_ => some k_ ≠ (v406 : Value).ownBlock ∧ some k_ ≠ (.slice Ao43 t420.length co43 : Value).ownBlock ∧ some k_ ≠ (v424 : Value).ownBlock ∧ some k_ ≠ (.slice Ao70 t436.length co70 : Value).ownBlock ∧ some k_ ≠ (.slice Ao72 t440.length co72 : Value).ownBlock) (Kd.R_keptB ((Kd.R_apart' HO_11.out (Kd.R_typed HO_417002.out) (by decide))) hkp (fun k_ hk_ hs_ => (hk_.2) hs_)) (fun k_ hk_ => ⟨hk_.1.1.1.1.1, hk_.1.1.1.1.2.1, hk_.1.1.1.1.2.2, hk_.1.1.1.2, hk_.1.1.2⟩)); replace HO_12 := zA (Kd.R_mono (ok' := fun k_ => some k_ ≠ (v406 : Value).ownBlock ∧ some k_ ≠ (.slice Ao42 t417.length co42 : Value).ownBlock ∧ some k_ ≠ (v424 : Value).ownBlock ∧ some k_ ≠ (.slice Ao70 t436.length co70 : Value).ownBlock ∧ some k_ ≠ (.slice Ao72 t440.length co72 : Value).ownBlock) (Kd.R_keptB ((Kd.R_apart' HO_12.out (Kd.R_typed HO_417002.out) (by decide))) hkp (fun k_ hk_ hs_ => (hk_.2) hs_)) (fun k_ hk_ => ⟨hk_.1.1.1.1.1, hk_.1.1.1.1.2.1, hk_.1.1.1.1.2.2, hk_.1.1.1.2, hk_.1.1.2⟩)); replace HO_13 := zA (Kd.R_mono (ok' := fun k_ => some k_ ≠ (v406 : Value).ownBlock ∧ some k_ ≠ (.slice Ao42 t417.length co42 : Value).ownBlock ∧ some k_ ≠ (.slice Ao43 t420.length co43 : Value).ownBlock ∧ some k_ ≠ (.slice Ao70 t436.length co70 : Value).ownBlock ∧ some k_ ≠ (.slice Ao72 t440.length co72 : Value).ownBlock) (Kd.R_keptB ((Kd.R_apart' HO_13.out (Kd.R_typed HO_417002.out) (by decide))) hkp (fun k_ hk_ hs_ => (hk_.2) hs_)) (fun k_ hk_ => ⟨hk_.1.1.1.1.1, hk_.1.1.1.1.2.1, hk_.1.1.1.1.2.2, hk_.1.1.1.2, hk_.1.1.2⟩)); replace BK390 := zA (blk_kept (zh BK390) hkp (fun hs_ => (fun e_ => (Kd.R_ne HO_417002.out BK390.out (by decide)) e_) hs_)); replace BK416 := zA (blk_kept (zh BK416) hkp (fun hs_ => (fun e_ => (Kd.R_ne HO_417002.out BK416.out (by decide)) e_) hs_)); replace HO432 := zA (Kd.R_mono (ok' := fun k_ => some k_ ≠ (.slice Ao38 t411.length co38 : Value).ownBlock) (Kd.R_keptB (HO432.out) hkp (fun k_ hk_ hs_ => (hk_.2) hs_)) (fun k_ hk_ => hk_.1.2)); replace HO438 := zA (Kd.R_mono (ok' := fun k_ => some k_ ≠ (v406 : Value).ownBlock ∧ some k_ ≠ (.slice Ao42 t417.length co42 : Value).ownBlock ∧ some k_ ≠ (.slice Ao43 t420.length co43 : Value).ownBlock ∧ some k_ ≠ (v424 : Value).ownBlock ∧ some k_ ≠ (.slice Ao72 t440.length co72 : Value).ownBlock) (Kd.R_keptB ((Kd.R_apart' HO438.out (Kd.R_typed HO_417002.out) (by decide))) hkp (fun k_ hk_ hs_ => (hk_.2) hs_)) (fun k_ hk_ => ⟨hk_.1.1.1.1.1.1.2, hk_.1.1.1.1.1.2, hk_.1.1.1.1.2, hk_.1.1.1.2, hk_.1.1.2⟩)); replace HO442 := zA (Kd.R_mono (ok' := fun k_ => some k_ ≠ (v406 : Value).ownBlock ∧ some k_ ≠ (.slice Ao42 t417.length co42 : Value).ownBlock ∧ some k_ ≠ (.slice Ao43 t420.length co43 : Value).ownBlock ∧ some k_ ≠ (v424 : Value).ownBlock ∧ some k_ ≠ (.slice Ao70 t436.length co70 : Value).ownBlock) (Kd.R_keptB ((Kd.R_apart' HO442.out (Kd.R_typed HO_417002.out) (by decide))) hkp (fun k_ hk_ hs_ => (hk_.2) hs_)) (fun k_ hk_ => ⟨hk_.1.1.1.1.1.1.2, hk_.1.1.1.1.1.2, hk_.1.1.1.1.2, hk_.1.1.1.2, hk_.1.1.2⟩)); replace HO_417002 := zA (Kd.R_reok rfl hy0 (fun k_ e_ => HO_417002.out.1 k_ e_)); replace HB := zA (hb); (try clear hb); (try clear hkp); (try clear hy0)) | ((with_reducible refine gate_callee (f := 23) rfl ?_); refine zgl (N := some 83) Try.func23 #[.slice Ao42 t417.length co42, .int .i64 t444] ?_; (with_reducible refine (laws_markIntS.calls kj20 (fun k_ => some k_ = (.slice Ao42 t417.length co42 : Value).ownBlock) (.slice Ao42 t417.length co42) t417 t444 t446 t447 w _ ?side1 ?side2 A62.out).mono ?_); (case side1 => repeat (first | (with_reducible first | exact HB.out | apply below_alloc | apply pw_below_drewN | apply below_drew1 | refine below_set ?_ GE390.out | refine below_set ?_ GE416.out) | exact HB.out)); (case side2 => exact Kd.R_tight rfl HO_11.out); rintro e w76 ⟨rfl, hy0, hb, hkp⟩; refine ⟨_, rfl, ?_⟩; replace HO_8 := zA (Kd.R_mono (ok' := fun k_ => some k_ ≠ (.slice Ao42 t417.length co42 : Value).ownBlock ∧ some k_ ≠ (.slice Ao43 t420.length co43 : Value).ownBlock ∧ some k_ ≠ (v424 : Value).ownBlock ∧ some k_ ≠ (.slice Ao70 t436.length co70 : Value).ownBlock ∧ some k_ ≠ (.slice Ao72 t440.length co72 : Value).ownBlock) (Kd.R_keptB (HO_8.out) hkp (fun k_ hk_ hs_ => (hk_.1) hs_)) (fun k_ hk_ => ⟨hk_.1.1, hk_.1.2.1, hk_.1.2.2.1, hk_.1.2.2.2.1, hk_.1.2.2.2.2⟩)); replace HO_12 := zA (Kd.R_mono (ok' := fun k_ => some k_ ≠ (v406 : Value).ownBlock ∧ some k_ ≠ (.slice Ao42 t417.length co42 : Value).ownBlock ∧ some k_ ≠ (v424 : Value).ownBlock ∧ some k_ ≠ (.slice Ao70 t436.length co70 : Value).ownBlock ∧ some k_ ≠ (.slice Ao72 t440.length co72 : Value).ownBlock) (Kd.R_keptB (HO_12.out) hkp (fun k_ hk_ hs_ => (hk_.2.1) hs_)) (fun k_ hk_ => ⟨hk_.1.1, hk_.1.2.1, hk_.1.2.2.1, hk_.1.2.2.2.1, hk_.1.2.2.2.2⟩)); replace HO_13 := zA (Kd.R_mono (ok' := fun k_ => some k_ ≠ (v406 : Value).ownBlock ∧ some k_ ≠ (.slice Ao42 t417.length co42 : Value).ownBlock ∧ some k_ ≠ (.slice Ao43 t420.length co43 : Value).ownBlock ∧ some k_ ≠ (.slice Ao70 t436.length co70 : Value).ownBlock ∧ some k_ ≠ (.slice Ao72 t440.length co72 : Value).ownBlock) (Kd.R_keptB (HO_13.out) hkp (fun k_ hk_ hs_ => (hk_.2.1) hs_)) (fun k_ hk_ => ⟨hk_.1.1, hk_.1.2.1, hk_.1.2.2.1, hk_.1.2.2.2.1, hk_.1.2.2.2.2⟩)); replace HO_417002 := zA (Kd.R_mono (ok' := fun k_ => some k_ ≠ (.slice Ao67 t430.length co67 : Value).ownBlock) (Kd.R_keptB ((Kd.R_apart' HO_417002.out (Kd.R_typed HO_11.out) (by decide))) hkp (fun k_ hk_ hs_ => (hk_.2) hs_)) (fun k_ hk_ => hk_.1.1.2)); replace BK390 := zA (blk_kept (zh BK390) hkp (fun hs_ => (fun e_ => (Kd.R_ne HO_11.out BK390.out (by decide)) e_) hs_)); replace BK416 := zA (blk_kept (zh BK416) hkp (fun hs_ => (fun e_ => (Kd.R_ne HO_11.out BK416.out (by decide)) e_) hs_)); replace HO432 := zA (Kd.R_mono (ok' := fun k_ => some k_ ≠ (.slice Ao38 t411.length co38 : Value).ownBlock) (Kd.R_keptB ((Kd.R_apart' HO432.out (Kd.R_typed HO_11.out) (by decide))) hkp (fun k_ hk_ hs_ => (hk_.2) hs_)) (fun k_ hk_ => hk_.1.1)); replace HO_11 := zA (Kd.R_reok rfl hy0 (fun k_ e_ => HO_11.out.1 k_ e_)); replace HO438 := zA (Kd.R_mono (ok' := fun k_ => some k_ ≠ (v406 : Value).ownBlock ∧ some k_ ≠ (.slice Ao42 t417.length co42 : Value).ownBlock ∧ some k_ ≠ (.slice Ao43 t420.length co43 : Value).ownBlock ∧ some k_ ≠ (v424 : Value).ownBlock ∧ some k_ ≠ (.slice Ao72 t440.length co72 : Value).ownBlock) (Kd.R_keptB (HO438.out) hkp (fun k_ hk_ hs_ => (hk_.2.1) hs_)) (fun k_ hk_ => ⟨hk_.1.1, hk_.1.2.1, hk_.1.2.2.1, hk_.1.2.2.2.1, hk_.1.2.2.2.2⟩)); replace HO442 := zA (Kd.R_mono (ok' := fun k_ => some k_ ≠ (v406 : Value).ownBlock ∧ some k_ ≠ (.slice Ao42 t417.length co42 : Value).ownBlock ∧ some k_ ≠ (.slice Ao43 t420.length co43 : Value).ownBlock ∧ some k_ ≠ (v424 : Value).ownBlock ∧ some k_ ≠ (.slice Ao70 t436.length co70 : Value).ownBlock) (Kd.R_keptB (HO442.out) hkp (fun k_ hk_ hs_ => (hk_.2.1) hs_)) (fun k_ hk_ => ⟨hk_.1.1, hk_.1.2.1, hk_.1.2.2.1, hk_.1.2.2.2.1, hk_.1.2.2.2.2⟩)); replace HB := zA (hb); (try clear hb); (try clear hkp); (try clear hy0)) | ((with_reducible refine gate_callee (f := 23) rfl ?_); refine zgl (N := some 86) Try.func23 #[.slice Ao43 t420.length co43, .int .i64 t446] ?_; (with_reducible refine (laws_markIntS.calls kj20 (fun k_ => some k_ = (.slice Ao43 t420.length co43 : Value).ownBlock) (.slice Ao43 t420.length co43) t420 t446 t448 t449 w _ ?side1 ?side2 A63.out).mono ?_); (case side1 => repeat (first | (with_reducible first | exact HB.out | apply below_alloc | apply pw_below_drewN | apply below_drew1 | refine below_set ?_ GE390.out | refine below_set ?_ GE416.out) | exact HB.out)); (case side2 => exact Kd.R_tight rfl HO_12.out); rintro e w77 ⟨rfl, hy0, hb, hkp⟩; refine ⟨_, rfl, ?_⟩; replace HO_8 := zA (Kd.R_mono (ok' := fun k_ => some k_ ≠ (.slice Ao42 t417.length co42 : Value).ownBlock ∧ some k_ ≠ (.slice Ao43 t420.length co43 : Value).ownBlock ∧ some k_ ≠ (v424 : Value).ownBlock ∧ some k_ ≠ (.slice Ao70 t436.length co70 : Value).ownBlock ∧ some k_ ≠ (.slice Ao72 t440.length co72 : Value).ownBlock) (Kd.R_keptB (HO_8.out) hkp (fun k_ hk_ hs_ => (hk_.2.1) hs_)) (fun k_ hk_ => ⟨hk_.1.1, hk_.1.2.1, hk_.1.2.2.1, hk_.1.2.2.2.1, hk_.1.2.2.2.2⟩)); replace HO_11 := zA (Kd.R_mono (ok' := fun k_ => some k_ ≠ (v406 : Value).ownBlock ∧ some k_ ≠ (.slice Ao43 t420.length co43 : Value).ownBlock ∧ some k_ ≠ (v424 : Value).ownBlock ∧ some k_ ≠ (.slice Ao70 t436.length co70 : Value).ownBlock ∧ some k_ ≠ (.slice Ao72 t440.length co72 : Value).ownBlock) (Kd.R_keptB (HO_11.out) hkp (fun k_ hk_ hs_ => (hk_.2.1) hs_)) (fun k_ hk_ => ⟨hk_.1.1, hk_.1.2.1, hk_.1.2.2.1, hk_.1.2.2.2.1, hk_.1.2.2.2.2⟩)); replace HO_13 := zA (Kd.R_mono (ok' := fun k_ => some k_ ≠ (v406 : Value).ownBlock ∧ some k_ ≠ (.slice Ao42 t417.length co42 : Value).ownBlock ∧ some k_ ≠ (.slice Ao43 t420.length co43 : Value).ownBlock ∧ some k_ ≠ (.slice Ao70 t436.length co70 : Value).ownBlock ∧ some k_ ≠ (.slice Ao72 t440.length co72 : Value).ownBlock) (Kd.R_keptB (HO_13.out) hkp (fun k_ hk_ hs_ => (hk_.2.2.1) hs_)) (fun k_ hk_ => ⟨hk_.1.1, hk_.1.2.1, hk_.1.2.2.1, hk_.1.2.2.2.1, hk_.1.2.2.2.2⟩)); replace HO_417002 := zA (Kd.R_mono (ok' := fun k_ => some k_ ≠ (.slice Ao67 t430.length co67 : Value).ownBlock) (Kd.R_keptB ((Kd.R_apart' HO_417002.out (Kd.R_typed HO_12.out) (by decide))) hkp (fun k_ hk_ hs_ => (hk_.2) hs_)) (fun k_ hk_ => hk_.1.1)); replace BK390 := zA (blk_kept (zh BK390) hkp (fun hs_ => (fun e_ => (Kd.R_ne HO_12.out BK390.out (by decide)) e_) hs_)); replace BK416 := zA (blk_kept (zh BK416) hkp (fun hs_ => (fun e_ => (Kd.R_ne HO_12.out BK416.out (by decide)) e_) hs_)); replace HO432 := zA (Kd.R_mono (ok' := fun k_ => some k_ ≠ (.slice Ao38 t411.length co38 : Value).ownBlock) (Kd.R_keptB ((Kd.R_apart' HO432.out (Kd.R_typed HO_12.out) (by decide))) hkp (fun k_ hk_ hs_ => (hk_.2) hs_)) (fun k_ hk_ => hk_.1.1)); replace HO_12 := zA (Kd.R_reok rfl hy0 (fun k_ e_ => HO_12.out.1 k_ e_)); replace HO438 := zA (Kd.R_mono (ok' := fun k_ => some k_ ≠ (v406 : Value).ownBlock ∧ some k_ ≠ (.slice Ao42 t417.length co42 : Value).ownBlock ∧ some k_ ≠ (.slice Ao43 t420.length co43 : Value).ownBlock ∧ some k_ ≠ (v424 : Value).ownBlock ∧ some k_ ≠ (.slice Ao72 t440.length co72 : Value).ownBlock) (Kd.R_keptB (HO438.out) hkp (fun k_ hk_ hs_ => (hk_.2.2.1) hs_)) (fun k_ hk_ => ⟨hk_.1.1, hk_.1.2.1, hk_.1.2.2.1, hk_.1.2.2.2.1, hk_.1.2.2.2.2⟩)); replace HO442 := zA (Kd.R_mono (ok' := fun k_ => some k_ ≠ (v406 : Value).ownBlock ∧ some k_ ≠ (.slice Ao42 t417.length co42 : Value).ownBlock ∧ some k_ ≠ (.slice Ao43 t420.length co43 : Value).ownBlock ∧ some k_ ≠ (v424 : Value).ownBlock ∧ some k_ ≠ (.slice Ao70 t436.length co70 : Value).ownBlock) (Kd.R_keptB (HO442.out) hkp (fun k_ hk_ hs_ => (hk_.2.2.1) hs_)) (fun k_ hk_ => ⟨hk_.1.1, hk_.1.2.1, hk_.1.2.2.1, hk_.1.2.2.2.1, hk_.1.2.2.2.2⟩)); replace HB := zA (hb); (try clear hb); (try clear hkp); (try clear hy0)))
   (try simp only [Act.put, List.setIfInBounds_toArray, List.set_cons_zero, List.set_cons_succ])
   go_cut [99] (fun v99 wc => ∃ (kq : Nat) (x99_63 : Bool), v99 = .bool x99_63 ∧ Aside0 (laws_FnExactFlyGo.j1 kq l1 l2 t405 t408 t423 x99_63 a0_0 a0_1 l0_2 a0_3 a0_4 = some r) ∧ Aside0 (kq ≤ kj20) ∧ Aside0 (Kd.R (Kd.int .i64) 3 wc w.heap.size (fun k_ => some k_ ≠ (v424 : Value).ownBlock) v406 t405) ∧ Aside0 (Kd.R (Kd.int .i64) 3 wc w.heap.size (fun k_ => some k_ ≠ (v406 : Value).ownBlock) v424 t423) ∧ Aside0 (Kd.R k88 88 wc w.heap.size (fun _ => True) (.slice Ao38 t411.length co38) t445) ∧ Aside0 (wc.heap[gb390]? = some (.cells #[.int .i64 a0_0, .int .i64 a0_1, (.slice A0_2 l0_2.length c0_2), .int .i64 a0_3, .int .i64 a0_4] 26 (0, 0))) ∧ Aside0 (wc.heap[gb416]? = some (.cells #[.int .i64 t409, .int .i64 t410, (.slice Ao38 t411.length co38), .int .i64 t414, .int .i64 t415] 34 (0, 0))) ∧ Aside0 (Below w.heap.size w wc))
   case first =>
    have H := HC64.out
    clear HC64
    by_cases c78 : t448 < 0
    ·rw [if_pos c78] at H
     have c78b0 : decide (t448 < 0) = true := decide_eq_true c78
     clear c78
     (first | rw [c78b0] | (simp only [i64_w, i32_w]; rw [c78b0]) | skip)
     have H' := zA H
     clear H
     go_wp2
     go_meet
     case rel => exact ⟨_, (true), zi, H', ⟨by have := HJ20.out; first | omega | exact Nat.le_refl _⟩, ⟨by (with_reducible repeat (first | apply Kd.R_alloc | apply Kd.R_drewN | apply Kd.R_drew)); exact Kd.R_mono HO_8.out (fun _ hk => hk.2.2.1)⟩, ⟨by (with_reducible repeat (first | apply Kd.R_alloc | apply Kd.R_drewN | apply Kd.R_drew)); exact Kd.R_mono HO_13.out (fun _ hk => hk.1)⟩, ⟨by (with_reducible repeat (first | apply Kd.R_alloc | apply Kd.R_drewN | apply Kd.R_drew)); exact Kd.R_mono HO_417002.out (fun _ hk => trivial)⟩, ⟨zh BK390⟩, ⟨zh BK416⟩, ⟨zs2 HB GE390 GE416⟩⟩
    rw [if_neg c78] at H
    have c78b0 : decide (t448 < 0) = false := decide_eq_false c78
    clear c78
    (first | rw [c78b0] | (simp only [i64_w, i32_w]; rw [c78b0]) | skip)
    replace H := zbd H; obtain ⟨t450, A79, H⟩ := H
    by_cases c80 : t450 = true
    ·subst c80
     have H1 : (laws_FnExactFlyGo.j1 kj20 l1 l2 t405 t408 t423 (t426 != t408) a0_0 a0_1 l0_2 a0_3 a0_4) = some r := by rw [if_pos rfl] at H; exact H
     clear H
     have H := H1
     clear H1
     have H' := zA H
     clear H
     obtain ⟨Ao81, co81, eo81⟩ := Kd.R_slice HO_13.out
     subst eo81
     obtain ⟨Ao82, co82, eo82⟩ := Kd.R_slice HO_8.out
     subst eo82
     go_wp2_with (first | (go_at_call 20; (with_reducible refine (laws_eqIntS.calls kj20 _ _ t423 _ _ t405 true _ ?side1 ?side2 ?side3 ?side4 A79.out).mono ?_); (case side1 => repeat (first | exact (Kd.R_reads' HO_13.out).2.2 | (with_reducible refine Kd.C_alloc ?_ _) | (with_reducible refine Kd.C_drewN ?_ _) | (with_reducible refine Kd.C_drew ?_))); (case side2 => exact (Kd.R_reads' HO_13.out).2.1); (case side3 => repeat (first | exact (Kd.R_reads' HO_8.out).2.2 | (with_reducible refine Kd.C_alloc ?_ _) | (with_reducible refine Kd.C_drewN ?_ _) | (with_reducible refine Kd.C_drew ?_))); (case side4 => exact (Kd.R_reads' HO_8.out).2.1); rintro e w' ⟨rfl, ⟨nd, rfl⟩⟩))
     go_meet
     case rel => exact ⟨_, ((t426 != t408)), zi, H', ⟨by have := HJ20.out; first | omega | exact Nat.le_refl _⟩, ⟨by (with_reducible repeat (first | apply Kd.R_alloc | apply Kd.R_drewN | apply Kd.R_drew)); exact Kd.R_mono HO_8.out (fun _ hk => hk.2.2.1)⟩, ⟨by (with_reducible repeat (first | apply Kd.R_alloc | apply Kd.R_drewN | apply Kd.R_drew)); exact Kd.R_mono HO_13.out (fun _ hk => hk.1)⟩, ⟨by (with_reducible repeat (first | apply Kd.R_alloc | apply Kd.R_drewN | apply Kd.R_drew)); exact Kd.R_mono HO_417002.out (fun _ hk => trivial)⟩, ⟨zh BK390⟩, ⟨zh BK416⟩, ⟨zs2 HB GE390 GE416⟩⟩
    replace c80 := Bool.eq_false_iff.mpr c80
    subst c80
    have H1 : (laws_FnExactFlyGo.j1 kj20 l1 l2 t405 t408 t423 true a0_0 a0_1 l0_2 a0_3 a0_4) = some r := by rw [if_neg (show ¬ (false = true) by decide)] at H; exact H
    clear H
    have H := H1
    clear H1
    have H' := zA H
    clear H
    obtain ⟨Ao83, co83, eo83⟩ := Kd.R_slice HO_13.out
    subst eo83
    obtain ⟨Ao84, co84, eo84⟩ := Kd.R_slice HO_8.out
    subst eo84
    go_wp2_with (first | (go_at_call 20; (with_reducible refine (laws_eqIntS.calls kj20 _ _ t423 _ _ t405 false _ ?side1 ?side2 ?side3 ?side4 A79.out).mono ?_); (case side1 => repeat (first | exact (Kd.R_reads' HO_13.out).2.2 | (with_reducible refine Kd.C_alloc ?_ _) | (with_reducible refine Kd.C_drewN ?_ _) | (with_reducible refine Kd.C_drew ?_))); (case side2 => exact (Kd.R_reads' HO_13.out).2.1); (case side3 => repeat (first | exact (Kd.R_reads' HO_8.out).2.2 | (with_reducible refine Kd.C_alloc ?_ _) | (with_reducible refine Kd.C_drewN ?_ _) | (with_reducible refine Kd.C_drew ?_))); (case side4 => exact (Kd.R_reads' HO_8.out).2.1); rintro e w' ⟨rfl, ⟨nd, rfl⟩⟩))
    go_meet
    case rel => exact ⟨_, (true), zi, H', ⟨by have := HJ20.out; first | omega | exact Nat.le_refl _⟩, ⟨by (with_reducible repeat (first | apply Kd.R_alloc | apply Kd.R_drewN | apply Kd.R_drew)); exact Kd.R_mono HO_8.out (fun _ hk => hk.2.2.1)⟩, ⟨by (with_reducible repeat (first | apply Kd.R_alloc | apply Kd.R_drewN | apply Kd.R_drew)); exact Kd.R_mono HO_13.out (fun _ hk => hk.1)⟩, ⟨by (with_reducible repeat (first | apply Kd.R_alloc | apply Kd.R_drewN | apply Kd.R_drew)); exact Kd.R_mono HO_417002.out (fun _ hk => trivial)⟩, ⟨zh BK390⟩, ⟨zh BK416⟩, ⟨zs2 HB GE390 GE416⟩⟩
   case rest =>
    clear HC64
    try clear c1
    try clear c2
    try clear p2
    try clear c3
    try clear c4
    try clear c4b0
    try clear c4b1
    try clear c5
    try clear c6
    try clear c6b0
    try clear c6b1
    try clear c7
    try clear c8
    try clear c9
    try clear c9b0
    try clear c15
    try clear c16
    try clear c17
    try clear c18
    try clear c19
    try clear c20
    try clear c21
    try clear c22
    try clear c23
    try clear c36
    try clear c46
    try clear c51
    try clear c54
    try clear c57
    try clear c60
    try clear c73
    try clear c78
    try clear c78b0
    try clear c80
    try clear hcz11_0 hcz11_1 hcz11_2 hcz11_3 hcz11_4
    try clear hcz23_0 hcz23_1 hcz23_2 hcz23_3 hcz23_4
    try clear hcz25_0 hcz25_1 hcz25_2 hcz25_3 hcz25_4
    try clear hcz33_0 hcz33_1 hcz33_2 hcz33_3 hcz33_4
    try clear hcz37_0 hcz37_1 hcz37_2 hcz37_3 hcz37_4
    try clear hcz41_0 hcz41_1 hcz41_2 hcz41_3 hcz41_4
    try clear hcz74_0 hcz74_1 hcz74_2 hcz74_3 hcz74_4
    try clear hfz11_0 hfz11_1 hfz11_2 hfz11_3 hfz11_4
    try clear hfz23_0 hfz23_1 hfz23_2 hfz23_3 hfz23_4
    try clear hfz25_0 hfz25_1 hfz25_2 hfz25_3 hfz25_4
    try clear hfz33_0 hfz33_1 hfz33_2 hfz33_3 hfz33_4
    try clear hfz37_0 hfz37_1 hfz37_2 hfz37_3 hfz37_4
    try clear hfz41_0 hfz41_1 hfz41_2 hfz41_3 hfz41_4
    try clear hfz74_0 hfz74_1 hfz74_2 hfz74_3 hfz74_4
    try clear p2
    obtain ⟨kq, x99_63, rfl, HA, HJ63, HO_8, HO_13, HO_417002, BK390, BK416, HB⟩ := hcut
    have hl417002_63 := (Kd.R_reads' HO_417002.out).1
    rw [hl417002_63] at HO_417002
    (try simp only [hl417002_63])
    (try simp only [hl417002_63] at BK390)
    (try simp only [hl417002_63] at BK416)
    (try simp only [hl417002_63] at HO_8)
    (try simp only [hl417002_63] at HO_13)
    cases kq with
    | zero => exact absurd HA.out (by simp [laws_FnExactFlyGo.j1])
    | succ kj63 =>
     have H := HA.out
     clear HA
     simp only [laws_FnExactFlyGo.j1] at H
     by_cases c85 : x99_63 = true
     ·subst c85
      have H1 : (some false) = some r := by rw [if_pos rfl] at H; exact H
      clear H
      have H := H1
      clear H1
      obtain rfl := Option.some.inj H
      go_wp2
      go_ret
      exact ⟨ze, zs2 HB GE390 GE416⟩
     replace c85 := Bool.eq_false_iff.mpr c85
     subst c85
     have H1 : ((laws_markIntS.f kj63 t423 1).bind fun bt451 => ((laws_heldIntS.f kj63 bt451.2 1).bind fun t453 => (if t453 < 0 then (some false) else (if t453 = bt451.1 then ((laws_toFlyPath.f kj63 a0_0 a0_1 l0_2 a0_3 a0_4).bind fun bt454 => ((laws_toIntS.f kj63 l1).bind fun t461 => ((laws_toIntS.f kj63 l2).bind fun t464 => ((impl_FlyGo.f kj63 bt454.1 bt454.2.1 bt454.2.2.1 bt454.2.2.2.1 bt454.2.2.2.2 t461 t464).bind fun bt467 => ((laws_eqIntS.f kj63 bt467.1 t405).bind fun t471 => (if t471 = true then (laws_FnExactFlyGo.j2 kj63 bt451.2 bt451.1 (bt467.2 != t408)) else (laws_FnExactFlyGo.j2 kj63 bt451.2 bt451.1 true))))))) else (some false))))) = some r := by rw [if_neg (show ¬ (false = true) by decide)] at H; exact H
     clear H
     have H := H1
     clear H1
     replace H := Option.bind_eq_some_iff.mp H
     obtain ⟨⟨t451, t452⟩, A860, H⟩ := H
     replace H : ((laws_heldIntS.f kj63 t452 1).bind fun t453 => (if t453 < 0 then (some false) else (if t453 = t451 then ((laws_toFlyPath.f kj63 a0_0 a0_1 l0_2 a0_3 a0_4).bind fun bt454 => ((laws_toIntS.f kj63 l1).bind fun t461 => ((laws_toIntS.f kj63 l2).bind fun t464 => ((impl_FlyGo.f kj63 bt454.1 bt454.2.1 bt454.2.2.1 bt454.2.2.2.1 bt454.2.2.2.2 t461 t464).bind fun bt467 => ((laws_eqIntS.f kj63 bt467.1 t405).bind fun t471 => (if t471 = true then (laws_FnExactFlyGo.j2 kj63 t452 t451 (bt467.2 != t408)) else (laws_FnExactFlyGo.j2 kj63 t452 t451 true))))))) else (some false)))) = some r := H
     have A86 := zA A860
     clear A860
     replace H := zbd H; obtain ⟨t453, A87, H⟩ := H
     by_cases c88 : t453 < 0
     ·rw [if_pos c88] at H
      have c88b0 : decide (t453 < 0) = true := decide_eq_true c88
      clear c88
      obtain rfl := Option.some.inj H
      obtain ⟨Ao89, co89, eo89⟩ := Kd.R_slice HO_13.out
      subst eo89
      go_wp2_with (first | ((with_reducible refine gate_callee (f := 23) rfl ?_); refine zgl (N := some 102) Try.func23 #[.slice Ao89 t423.length co89, .int .i64 1] ?_; (with_reducible refine (laws_markIntS.calls kj63 (fun k_ => some k_ = (.slice Ao89 t423.length co89 : Value).ownBlock) (.slice Ao89 t423.length co89) t423 1 t451 t452 w _ ?side1 ?side2 A86.out).mono ?_); (case side1 => repeat (first | (with_reducible first | exact HB.out | apply below_alloc | apply pw_below_drewN | apply below_drew1 | refine below_set ?_ GE390.out | refine below_set ?_ GE416.out) | exact HB.out)); (case side2 => exact Kd.R_tight rfl HO_13.out); rintro e w90 ⟨rfl, hy0, hb, hkp⟩; refine ⟨_, rfl, ?_⟩; replace HO_8 := zA (Kd.R_mono (ok' := fun k_ => some k_ ≠ (.slice Ao89 t423.length co89 : Value).ownBlock) (Kd.R_keptB (HO_8.out) hkp (fun k_ hk_ hs_ => (hk_) hs_)) (fun k_ hk_ => hk_.1)); replace HO_417002 := zA (Kd.R_mono (ok' := fun k_ => True) (Kd.R_keptB ((Kd.R_apart' HO_417002.out (Kd.R_typed HO_13.out) (by decide))) hkp (fun k_ hk_ hs_ => (hk_.2) hs_)) (fun k_ hk_ => trivial)); replace BK390 := zA (blk_kept (zh BK390) hkp (fun hs_ => (fun e_ => (Kd.R_ne HO_13.out BK390.out (by decide)) e_) hs_)); replace BK416 := zA (blk_kept (zh BK416) hkp (fun hs_ => (fun e_ => (Kd.R_ne HO_13.out BK416.out (by decide)) e_) hs_)); replace HO_13 := zA (Kd.R_reok rfl hy0 (fun k_ e_ => HO_13.out.1 k_ e_)); replace HB := zA (hb); (try clear hb); (try clear hkp); (try clear hy0)) | ((with_reducible refine gate_callee (f := 24) rfl ?_); refine goesL_ (some 105) rfl rfl Try.func24 (by kernel_rfl) rfl #[.slice Ao89 t452.length co89, .int .i64 1] rfl (by (try simp only [List.map_toArray, List.map_cons, List.map_nil]); first | done | (rw [show t452.length = t423.length from (Kd.R_reads' HO_13.out).1.symm] <;> rfl) | rfl | (simp only [List.length_drop, List.length_take]; rfl)) ?_; (with_reducible refine (laws_heldIntS.calls kj63 _ _ t452 1 t453 _ ?side1 ?side2 A87.out).mono ?_); (case side1 => repeat (first | exact (Kd.R_reads' HO_13.out).2.2 | (with_reducible refine Kd.C_alloc ?_ _) | (with_reducible refine Kd.C_drewN ?_ _) | (with_reducible refine Kd.C_drew ?_))); (case side2 => rw [show t452.length = t423.length from (Kd.R_reads' HO_13.out).1.symm]; exact (Kd.R_reads' HO_13.out).2.1); rintro e w' ⟨rfl, ⟨nd, rfl⟩⟩; refine ⟨_, rfl, ?_⟩))
      go_ret
      exact ⟨ze, zs2 HB GE390 GE416⟩
     rw [if_neg c88] at H
     have c88b0 : decide (t453 < 0) = false := decide_eq_false c88
     clear c88
     by_cases c91 : t453 = t451
     rotate_left
     ·rw [if_neg c91] at H
      have c91b0 : (t453 == t451) = false := beq_eq_false_iff_ne.mpr c91
      have c91b1 : (t453 != t451) = true := bne_iff_ne.mpr c91
      obtain rfl := Option.some.inj H
      obtain ⟨Ao118, co118, eo118⟩ := Kd.R_slice HO_13.out
      subst eo118
      go_wp2_with (first | ((with_reducible refine gate_callee (f := 23) rfl ?_); refine zgl (N := some 102) Try.func23 #[.slice Ao118 t423.length co118, .int .i64 1] ?_; (with_reducible refine (laws_markIntS.calls kj63 (fun k_ => some k_ = (.slice Ao118 t423.length co118 : Value).ownBlock) (.slice Ao118 t423.length co118) t423 1 t451 t452 w _ ?side1 ?side2 A86.out).mono ?_); (case side1 => repeat (first | (with_reducible first | exact HB.out | apply below_alloc | apply pw_below_drewN | apply below_drew1 | refine below_set ?_ GE390.out | refine below_set ?_ GE416.out) | exact HB.out)); (case side2 => exact Kd.R_tight rfl HO_13.out); rintro e w119 ⟨rfl, hy0, hb, hkp⟩; refine ⟨_, rfl, ?_⟩; replace HO_8 := zA (Kd.R_mono (ok' := fun k_ => some k_ ≠ (.slice Ao118 t423.length co118 : Value).ownBlock) (Kd.R_keptB (HO_8.out) hkp (fun k_ hk_ hs_ => (hk_) hs_)) (fun k_ hk_ => hk_.1)); replace HO_417002 := zA (Kd.R_mono (ok' := fun k_ => True) (Kd.R_keptB ((Kd.R_apart' HO_417002.out (Kd.R_typed HO_13.out) (by decide))) hkp (fun k_ hk_ hs_ => (hk_.2) hs_)) (fun k_ hk_ => trivial)); replace BK390 := zA (blk_kept (zh BK390) hkp (fun hs_ => (fun e_ => (Kd.R_ne HO_13.out BK390.out (by decide)) e_) hs_)); replace BK416 := zA (blk_kept (zh BK416) hkp (fun hs_ => (fun e_ => (Kd.R_ne HO_13.out BK416.out (by decide)) e_) hs_)); replace HO_13 := zA (Kd.R_reok rfl hy0 (fun k_ e_ => HO_13.out.1 k_ e_)); replace HB := zA (hb); (try clear hb); (try clear hkp); (try clear hy0)) | ((with_reducible refine gate_callee (f := 24) rfl ?_); refine goesL_ (some 105) rfl rfl Try.func24 (by kernel_rfl) rfl #[.slice Ao118 t452.length co118, .int .i64 1] rfl (by (try simp only [List.map_toArray, List.map_cons, List.map_nil]); first | done | (rw [show t452.length = t423.length from (Kd.R_reads' HO_13.out).1.symm] <;> rfl) | rfl | (simp only [List.length_drop, List.length_take]; rfl)) ?_; (with_reducible refine (laws_heldIntS.calls kj63 _ _ t452 1 t453 _ ?side1 ?side2 A87.out).mono ?_); (case side1 => repeat (first | exact (Kd.R_reads' HO_13.out).2.2 | (with_reducible refine Kd.C_alloc ?_ _) | (with_reducible refine Kd.C_drewN ?_ _) | (with_reducible refine Kd.C_drew ?_))); (case side2 => rw [show t452.length = t423.length from (Kd.R_reads' HO_13.out).1.symm]; exact (Kd.R_reads' HO_13.out).2.1); rintro e w' ⟨rfl, ⟨nd, rfl⟩⟩; refine ⟨_, rfl, ?_⟩))
      go_ret
      exact ⟨ze, zs2 HB GE390 GE416⟩
     rw [if_pos c91] at H
     have c91b0 : (t453 == t451) = true := beq_iff_eq.mpr c91
     have c91b1 : (t453 != t451) = false := bne_eq_false_iff_eq.mpr c91
     clear c91
     replace H := Option.bind_eq_some_iff.mp H
     obtain ⟨⟨t454, t455, t456, t459, t460⟩, A920, H⟩ := H
     replace H : ((laws_toIntS.f kj63 l1).bind fun t461 => ((laws_toIntS.f kj63 l2).bind fun t464 => ((impl_FlyGo.f kj63 t454 t455 t456 t459 t460 t461 t464).bind fun bt467 => ((laws_eqIntS.f kj63 bt467.1 t405).bind fun t471 => (if t471 = true then (laws_FnExactFlyGo.j2 kj63 t452 t451 (bt467.2 != t408)) else (laws_FnExactFlyGo.j2 kj63 t452 t451 true)))))) = some r := H
     have A92 := zA A920
     clear A920
     replace H := zbd H; obtain ⟨t461, A93, H⟩ := H
     replace H := Option.bind_eq_some_iff.mp H
     obtain ⟨t464, A940, H⟩ := H
     replace H : ((impl_FlyGo.f kj63 t454 t455 t456 t459 t460 t461 t464).bind fun bt467 => ((laws_eqIntS.f kj63 bt467.1 t405).bind fun t471 => (if t471 = true then (laws_FnExactFlyGo.j2 kj63 t452 t451 (bt467.2 != t408)) else (laws_FnExactFlyGo.j2 kj63 t452 t451 true)))) = some r := H
     have A94 := zA A940
     clear A940
     replace H := Option.bind_eq_some_iff.mp H
     obtain ⟨⟨t467, t470⟩, A950, H⟩ := H
     replace H : ((laws_eqIntS.f kj63 t467 t405).bind fun t471 => (if t471 = true then (laws_FnExactFlyGo.j2 kj63 t452 t451 (t470 != t408)) else (laws_FnExactFlyGo.j2 kj63 t452 t451 true))) = some r := H
     have A95 := zA A950
     clear A950
     have HC96 := zA H
     clear H
     obtain ⟨Ao97, co97, eo97⟩ := Kd.R_slice HO_13.out
     subst eo97
     go_upto_region 37 with (first | ((with_reducible refine gate_callee (f := 23) rfl ?_); refine zgl (N := some 102) Try.func23 #[.slice Ao97 t423.length co97, .int .i64 1] ?_; (with_reducible refine (laws_markIntS.calls kj63 (fun k_ => some k_ = (.slice Ao97 t423.length co97 : Value).ownBlock) (.slice Ao97 t423.length co97) t423 1 t451 t452 w _ ?side1 ?side2 A86.out).mono ?_); (case side1 => repeat (first | (with_reducible first | exact HB.out | apply below_alloc | apply pw_below_drewN | apply below_drew1 | refine below_set ?_ GE390.out | refine below_set ?_ GE416.out) | exact HB.out)); (case side2 => exact Kd.R_tight rfl HO_13.out); rintro e w98 ⟨rfl, hy0, hb, hkp⟩; refine ⟨_, rfl, ?_⟩; replace HO_8 := zA (Kd.R_mono (ok' := fun k_ => some k_ ≠ (.slice Ao97 t423.length co97 : Value).ownBlock) (Kd.R_keptB (HO_8.out) hkp (fun k_ hk_ hs_ => (hk_) hs_)) (fun k_ hk_ => hk_.1)); replace HO_417002 := zA (Kd.R_mono (ok' := fun k_ => True) (Kd.R_keptB ((Kd.R_apart' HO_417002.out (Kd.R_typed HO_13.out) (by decide))) hkp (fun k_ hk_ hs_ => (hk_.2) hs_)) (fun k_ hk_ => trivial)); replace BK390 := zA (blk_kept (zh BK390) hkp (fun hs_ => (fun e_ => (Kd.R_ne HO_13.out BK390.out (by decide)) e_) hs_)); replace BK416 := zA (blk_kept (zh BK416) hkp (fun hs_ => (fun e_ => (Kd.R_ne HO_13.out BK416.out (by decide)) e_) hs_)); replace HO_13 := zA (Kd.R_reok rfl hy0 (fun k_ e_ => HO_13.out.1 k_ e_)); replace HB := zA (hb); (try clear hb); (try clear hkp); (try clear hy0)) | ((with_reducible refine gate_callee (f := 24) rfl ?_); refine goesL_ (some 105) rfl rfl Try.func24 (by kernel_rfl) rfl #[.slice Ao97 t452.length co97, .int .i64 1] rfl (by (try simp only [List.map_toArray, List.map_cons, List.map_nil]); first | done | (rw [show t452.length = t423.length from (Kd.R_reads' HO_13.out).1.symm] <;> rfl) | rfl | (simp only [List.length_drop, List.length_take]; rfl)) ?_; (with_reducible refine (laws_heldIntS.calls kj63 _ _ t452 1 t453 _ ?side1 ?side2 A87.out).mono ?_); (case side1 => repeat (first | exact (Kd.R_reads' HO_13.out).2.2 | (with_reducible refine Kd.C_alloc ?_ _) | (with_reducible refine Kd.C_drewN ?_ _) | (with_reducible refine Kd.C_drew ?_))); (case side2 => rw [show t452.length = t423.length from (Kd.R_reads' HO_13.out).1.symm]; exact (Kd.R_reads' HO_13.out).2.1); rintro e w' ⟨rfl, ⟨nd, rfl⟩⟩; refine ⟨_, rfl, ?_⟩; have hnb99 := NB390_416.out; have hnc99 := NB416_390.out; obtain ⟨hcz100_0, hcz100_1, hcz100_2, hcz100_3, hcz100_4⟩ := zd5 BK390; obtain ⟨hfz100_0, hfz100_1, hfz100_2, hfz100_3, hfz100_4⟩ := zn5 BK390) | ((with_reducible refine gate_callee (f := 17) rfl ?_); refine zgl (N := some 113) Try.func17 #[.agg #[.int .i64 a0_0, .int .i64 a0_1, .slice A0_2 l0_2.length c0_2, .int .i64 a0_3, .int .i64 a0_4]] ?_; (with_reducible refine (laws_toFlyPath.calls kj63 a0_0 a0_1 _ _ l0_2 a0_3 a0_4 t454 t455 t456 t459 t460 _ ?side1 ?side2 A92.out).mono ?_); (case side1 => repeat (first | exact (Kd.C_below HR0_2.out (zs2 HB GE390 GE416)) | (with_reducible refine Kd.C_alloc ?_ _) | (with_reducible refine Kd.C_drewN ?_ _) | (with_reducible refine Kd.C_drew ?_))); (case side2 => exact HC0_2.out); rintro e w101 ⟨v457, rfl, ho0, hb⟩; refine ⟨_, rfl, ?_⟩; have HO458 := zA (Kd.R_lower (Kd.R_new' ho0 (Kd.R_lt (zr HO_417002))) (below_size (zs2 HB GE390 GE416))); replace HO_8 := zA (Kd.R_below (zr HO_8) hb); replace HO_13 := zA (Kd.R_below (zr HO_13) hb); replace HO_417002 := zA (Kd.R_elder' (zr HO_417002) (Kd.R_base ho0) hb); replace BK390 := zb BK390 hb; replace BK416 := zb BK416 hb; replace HB := zE (zs2 HB GE390 GE416) hb; (try clear hb); (try clear hb2); (try clear hk); (try clear hi); (try clear ho0)) | ((with_reducible refine gate_callee (f := 18) rfl ?_); refine zgl (N := some 115) Try.func18 #[.slice A1 l1.length c1] ?_; (with_reducible refine (laws_toIntS.calls kj63 _ _ l1 t461 _ ?side1 ?side2 A93.out).mono ?_); (case side1 => exact zC HR1 HB); (case side2 => exact HC1.out); rintro e w102 ⟨v462, rfl, ho0, hb⟩; refine ⟨_, rfl, ?_⟩; have HO463 := zA (Kd.R_lower (Kd.R_new' (Kd.R_new' ho0 (Kd.R_lt (zr HO_8))) (Kd.R_lt (zr HO_13))) (below_size (zs2 HB GE390 GE416))); replace HO_8 := zA (Kd.R_elder' (zr HO_8) (Kd.R_base ho0) hb); replace HO_13 := zA (Kd.R_elder' (zr HO_13) (Kd.R_base ho0) hb); replace HO_417002 := zA (Kd.R_below (zr HO_417002) hb); replace HO458 := zA (Kd.R_below (zr HO458) hb); replace BK390 := zb BK390 hb; replace BK416 := zb BK416 hb; replace HB := zE (zs2 HB GE390 GE416) hb; (try clear hb); (try clear hb2); (try clear hk); (try clear hi); (try clear ho0)) | ((with_reducible refine gate_callee (f := 18) rfl ?_); refine zgl (N := some 117) Try.func18 #[.slice A2 l2.length c2] ?_; (with_reducible refine (laws_toIntS.calls kj63 _ _ l2 t464 _ ?side1 ?side2 A94.out).mono ?_); (case side1 => exact zC HR2 HB); (case side2 => exact HC2.out); rintro e w103 ⟨v465, rfl, ho0, hb⟩; refine ⟨_, rfl, ?_⟩; have HO466 := zA (Kd.R_lower (Kd.R_new' (Kd.R_new' (Kd.R_new' ho0 (Kd.R_lt (zr HO_8))) (Kd.R_lt (zr HO_13))) (Kd.R_lt (zr HO463))) (below_size (zs2 HB GE390 GE416))); replace HO_8 := zA (Kd.R_elder' (zr HO_8) (Kd.R_base ho0) hb); replace HO_13 := zA (Kd.R_elder' (zr HO_13) (Kd.R_base ho0) hb); replace HO_417002 := zA (Kd.R_below (zr HO_417002) hb); replace HO458 := zA (Kd.R_below (zr HO458) hb); replace HO463 := zA (Kd.R_elder' (zr HO463) (Kd.R_base ho0) hb); replace BK390 := zb BK390 hb; replace BK416 := zb BK416 hb; replace HB := zE (zs2 HB GE390 GE416) hb; (try clear hb); (try clear hb2); (try clear hk); (try clear hi); (try clear ho0); obtain ⟨Ao104, co104, eo104⟩ := Kd.R_slice HO458.out; subst eo104; obtain ⟨Ao105, co105, eo105⟩ := Kd.R_slice HO463.out; subst eo105; obtain ⟨Ao106, co106, eo106⟩ := Kd.R_slice HO466.out; subst eo106) | ((with_reducible refine gate_callee (f := 19) rfl ?_); refine zgl (N := some 118) Try.func19 #[.agg #[.int .i64 t454, .int .i64 t455, .slice Ao104 t456.length co104, .int .i64 t459, .int .i64 t460], .slice Ao105 t461.length co105, .slice Ao106 t464.length co106] ?_; (with_reducible refine (impl_FlyGo.calls kj63 t454 t455 _ _ t456 t459 t460 _ _ t461 _ _ t464 t467 t470 _ ?side1 ?side2 ?side3 ?side4 ?side5 ?side6 A95.out).mono ?_); (case side1 => repeat (first | exact (Kd.R_reads' HO458.out).2.2 | (with_reducible refine Kd.C_alloc ?_ _) | (with_reducible refine Kd.C_drewN ?_ _) | (with_reducible refine Kd.C_drew ?_))); (case side2 => exact (Kd.R_reads' HO458.out).2.1); (case side3 => repeat (first | exact (Kd.R_reads' HO463.out).2.2 | (with_reducible refine Kd.C_alloc ?_ _) | (with_reducible refine Kd.C_drewN ?_ _) | (with_reducible refine Kd.C_drew ?_))); (case side4 => exact (Kd.R_reads' HO463.out).2.1); (case side5 => repeat (first | exact (Kd.R_reads' HO466.out).2.2 | (with_reducible refine Kd.C_alloc ?_ _) | (with_reducible refine Kd.C_drewN ?_ _) | (with_reducible refine Kd.C_drew ?_))); (case side6 => exact (Kd.R_reads' HO466.out).2.1); rintro e w107 ⟨v468, rfl, ho0, hb⟩; refine ⟨_, rfl, ?_⟩; have HO469 := zA (Kd.R_lower (Kd.R_new' (Kd.R_new' (Kd.R_new' (Kd.R_new' ho0 (Kd.R_lt (zr HO_8))) (Kd.R_lt (zr HO_13))) (Kd.R_lt (zr HO463))) (Kd.R_lt (zr HO466))) (below_size (zs2 HB GE390 GE416))); replace HO_8 := zA (Kd.R_elder' (zr HO_8) (Kd.R_base ho0) hb); replace HO_13 := zA (Kd.R_elder' (zr HO_13) (Kd.R_base ho0) hb); replace HO_417002 := zA (Kd.R_below (zr HO_417002) hb); replace HO458 := zA (Kd.R_below (zr HO458) hb); replace HO463 := zA (Kd.R_elder' (zr HO463) (Kd.R_base ho0) hb); replace HO466 := zA (Kd.R_elder' (zr HO466) (Kd.R_base ho0) hb); replace BK390 := zb BK390 hb; replace BK416 := zb BK416 hb; replace HB := zE (zs2 HB GE390 GE416) hb; (try clear hb); (try clear hb2); (try clear hk); (try clear hi); (try clear ho0)))
     (try simp only [Act.put, List.setIfInBounds_toArray, List.set_cons_zero, List.set_cons_succ])
     go_cut [129] (fun v129 wc => ∃ (kq : Nat) (x129_95 : Bool), v129 = .bool x129_95 ∧ Aside0 (laws_FnExactFlyGo.j2 kq t452 t451 x129_95 = some r) ∧ Aside0 (kq ≤ kj63) ∧ Aside0 (Kd.R (Kd.int .i64) 3 wc w.heap.size (fun _ => True) (.slice Ao97 t423.length co97) t452) ∧ Aside0 (Kd.R k88 88 wc w.heap.size (fun _ => True) (.slice Ao38 t445.length co38) t445) ∧ Aside0 (wc.heap[gb390]? = some (.cells #[.int .i64 a0_0, .int .i64 a0_1, (.slice A0_2 l0_2.length c0_2), .int .i64 a0_3, .int .i64 a0_4] 26 (0, 0))) ∧ Aside0 (wc.heap[gb416]? = some (.cells #[.int .i64 t409, .int .i64 t410, (.slice Ao38 t445.length co38), .int .i64 t414, .int .i64 t415] 34 (0, 0))) ∧ Aside0 (Below w.heap.size w wc))
     case first =>
      have H := HC96.out
      clear HC96
      replace H := zbd H; obtain ⟨t471, A108, H⟩ := H
      by_cases c109 : t471 = true
      ·subst c109
       have H1 : (laws_FnExactFlyGo.j2 kj63 t452 t451 (t470 != t408)) = some r := by rw [if_pos rfl] at H; exact H
       clear H
       have H := H1
       clear H1
       have H' := zA H
       clear H
       obtain ⟨Ao110, co110, eo110⟩ := Kd.R_slice HO469.out
       subst eo110
       obtain ⟨Ao111, co111, eo111⟩ := Kd.R_slice HO_8.out
       subst eo111
       go_wp2_with (first | ((with_reducible refine gate_callee (f := 20) rfl ?_); refine zgl (N := some 123) Try.func20 #[.slice Ao110 t467.length co110, .slice Ao111 t405.length co111] ?_; (with_reducible refine (laws_eqIntS.calls kj63 _ _ t467 _ _ t405 true _ ?side1 ?side2 ?side3 ?side4 A108.out).mono ?_); (case side1 => repeat (first | exact (Kd.R_reads' HO469.out).2.2 | (with_reducible refine Kd.C_alloc ?_ _) | (with_reducible refine Kd.C_drewN ?_ _) | (with_reducible refine Kd.C_drew ?_))); (case side2 => exact (Kd.R_reads' HO469.out).2.1); (case side3 => repeat (first | exact (Kd.R_reads' HO_8.out).2.2 | (with_reducible refine Kd.C_alloc ?_ _) | (with_reducible refine Kd.C_drewN ?_ _) | (with_reducible refine Kd.C_drew ?_))); (case side4 => exact (Kd.R_reads' HO_8.out).2.1); rintro e w' ⟨rfl, ⟨nd, rfl⟩⟩; refine ⟨_, rfl, ?_⟩))
       go_meet
       case rel => exact ⟨_, ((t470 != t408)), zi, H', ⟨by have := HJ20.out; have := HJ63.out; first | omega | exact Nat.le_refl _⟩, ⟨by (try simp only [hl417002_63]); (with_reducible repeat (first | apply Kd.R_alloc | apply Kd.R_drewN | apply Kd.R_drew)); exact Kd.R_mono HO_13.out (fun _ hk => trivial)⟩, ⟨by (try simp only [hl417002_63]); (with_reducible repeat (first | apply Kd.R_alloc | apply Kd.R_drewN | apply Kd.R_drew)); exact Kd.R_mono HO_417002.out (fun _ hk => trivial)⟩, ⟨by (try simp only [hl417002_63]); (with_reducible repeat (first | refine blk_drewN ?_ _ | refine blk_drew ?_ | refine blk_alloc ?_ _)); exact BK390.out⟩, ⟨by (try simp only [hl417002_63]); (with_reducible repeat (first | refine blk_drewN ?_ _ | refine blk_drew ?_ | refine blk_alloc ?_ _)); exact BK416.out⟩, ⟨zs2 HB GE390 GE416⟩⟩
      replace c109 := Bool.eq_false_iff.mpr c109
      subst c109
      have H1 : (laws_FnExactFlyGo.j2 kj63 t452 t451 true) = some r := by rw [if_neg (show ¬ (false = true) by decide)] at H; exact H
      clear H
      have H := H1
      clear H1
      have H' := zA H
      clear H
      obtain ⟨Ao112, co112, eo112⟩ := Kd.R_slice HO469.out
      subst eo112
      obtain ⟨Ao113, co113, eo113⟩ := Kd.R_slice HO_8.out
      subst eo113
      go_wp2_with (first | ((with_reducible refine gate_callee (f := 20) rfl ?_); refine zgl (N := some 123) Try.func20 #[.slice Ao112 t467.length co112, .slice Ao113 t405.length co113] ?_; (with_reducible refine (laws_eqIntS.calls kj63 _ _ t467 _ _ t405 false _ ?side1 ?side2 ?side3 ?side4 A108.out).mono ?_); (case side1 => repeat (first | exact (Kd.R_reads' HO469.out).2.2 | (with_reducible refine Kd.C_alloc ?_ _) | (with_reducible refine Kd.C_drewN ?_ _) | (with_reducible refine Kd.C_drew ?_))); (case side2 => exact (Kd.R_reads' HO469.out).2.1); (case side3 => repeat (first | exact (Kd.R_reads' HO_8.out).2.2 | (with_reducible refine Kd.C_alloc ?_ _) | (with_reducible refine Kd.C_drewN ?_ _) | (with_reducible refine Kd.C_drew ?_))); (case side4 => exact (Kd.R_reads' HO_8.out).2.1); rintro e w' ⟨rfl, ⟨nd, rfl⟩⟩; refine ⟨_, rfl, ?_⟩))
      go_meet
      case rel => exact ⟨_, (true), zi, H', ⟨by have := HJ20.out; have := HJ63.out; first | omega | exact Nat.le_refl _⟩, ⟨by (try simp only [hl417002_63]); (with_reducible repeat (first | apply Kd.R_alloc | apply Kd.R_drewN | apply Kd.R_drew)); exact Kd.R_mono HO_13.out (fun _ hk => trivial)⟩, ⟨by (try simp only [hl417002_63]); (with_reducible repeat (first | apply Kd.R_alloc | apply Kd.R_drewN | apply Kd.R_drew)); exact Kd.R_mono HO_417002.out (fun _ hk => trivial)⟩, ⟨by (try simp only [hl417002_63]); (with_reducible repeat (first | refine blk_drewN ?_ _ | refine blk_drew ?_ | refine blk_alloc ?_ _)); exact BK390.out⟩, ⟨by (try simp only [hl417002_63]); (with_reducible repeat (first | refine blk_drewN ?_ _ | refine blk_drew ?_ | refine blk_alloc ?_ _)); exact BK416.out⟩, ⟨zs2 HB GE390 GE416⟩⟩
     case rest =>
      clear HC96
      try clear c1
      try clear c2
      try clear p2
      try clear c3
      try clear c4
      try clear c4b0
      try clear c4b1
      try clear c5
      try clear c6
      try clear c6b0
      try clear c6b1
      try clear c7
      try clear c8
      try clear c9
      try clear c9b0
      try clear c10
      try clear c15
      try clear c16
      try clear c17
      try clear c18
      try clear c19
      try clear c20
      try clear c21
      try clear c22
      try clear c23
      try clear c24
      try clear c36
      try clear c46
      try clear c51
      try clear c54
      try clear c57
      try clear c60
      try clear c73
      try clear c78
      try clear c78b0
      try clear c80
      try clear c85
      try clear c88
      try clear c88b0
      try clear c91
      try clear c91b0
      try clear c91b1
      try clear c99
      try clear c109
      try clear hcz100_0 hcz100_1 hcz100_2 hcz100_3 hcz100_4
      try clear hcz11_0 hcz11_1 hcz11_2 hcz11_3 hcz11_4
      try clear hcz23_0 hcz23_1 hcz23_2 hcz23_3 hcz23_4
      try clear hcz25_0 hcz25_1 hcz25_2 hcz25_3 hcz25_4
      try clear hcz33_0 hcz33_1 hcz33_2 hcz33_3 hcz33_4
      try clear hcz37_0 hcz37_1 hcz37_2 hcz37_3 hcz37_4
      try clear hcz41_0 hcz41_1 hcz41_2 hcz41_3 hcz41_4
      try clear hcz74_0 hcz74_1 hcz74_2 hcz74_3 hcz74_4
      try clear hfz100_0 hfz100_1 hfz100_2 hfz100_3 hfz100_4
      try clear hfz11_0 hfz11_1 hfz11_2 hfz11_3 hfz11_4
      try clear hfz23_0 hfz23_1 hfz23_2 hfz23_3 hfz23_4
      try clear hfz25_0 hfz25_1 hfz25_2 hfz25_3 hfz25_4
      try clear hfz33_0 hfz33_1 hfz33_2 hfz33_3 hfz33_4
      try clear hfz37_0 hfz37_1 hfz37_2 hfz37_3 hfz37_4
      try clear hfz41_0 hfz41_1 hfz41_2 hfz41_3 hfz41_4
      try clear hfz74_0 hfz74_1 hfz74_2 hfz74_3 hfz74_4
      try clear p2
      obtain ⟨kq, x129_95, rfl, HA, HJ95, HO_13, HO_417002, BK390, BK416, HB⟩ := hcut
      have hl13_95 := (Kd.R_reads' HO_13.out).1
      rw [hl13_95] at HO_13
      (try simp only [hl13_95])
      (try simp only [hl13_95] at BK390)
      (try simp only [hl13_95] at BK416)
      (try simp only [hl13_95] at HO_417002)
      cases kq with
      | zero => exact absurd HA.out (by simp [laws_FnExactFlyGo.j2])
      | succ kj95 =>
       have H := HA.out
       clear HA
       simp only [laws_FnExactFlyGo.j2] at H
       by_cases c114 : x129_95 = true
       ·subst c114
        have H1 : (some false) = some r := by rw [if_pos rfl] at H; exact H
        clear H
        have H := H1
        clear H1
        obtain rfl := Option.some.inj H
        go_wp2
        go_ret
        exact ⟨ze, zs2 HB GE390 GE416⟩
       replace c114 := Bool.eq_false_iff.mpr c114
       subst c114
       have H1 : ((laws_heldIntS.f kj95 t452 1).bind fun t472 => (if t472 < 0 then (some false) else (if t472 = t451 then (some true) else (some false)))) = some r := by rw [if_neg (show ¬ (false = true) by decide)] at H; exact H
       clear H
       have H := H1
       clear H1
       replace H := zbd H; obtain ⟨t472, A115, H⟩ := H
       by_cases c116 : t472 < 0
       ·rw [if_pos c116] at H
        have c116b0 : decide (t472 < 0) = true := decide_eq_true c116
        clear c116
        obtain rfl := Option.some.inj H
        go_wp2_with (first | ((with_reducible refine gate_callee (f := 24) rfl ?_); refine zgl (N := some 132) Try.func24 #[.slice Ao97 t452.length co97, .int .i64 1] ?_; (with_reducible refine (laws_heldIntS.calls kj95 _ _ t452 1 t472 _ ?side1 ?side2 A115.out).mono ?_); (case side1 => repeat (first | exact (Kd.R_reads' HO_13.out).2.2 | (with_reducible refine Kd.C_alloc ?_ _) | (with_reducible refine Kd.C_drewN ?_ _) | (with_reducible refine Kd.C_drew ?_))); (case side2 => exact (Kd.R_reads' HO_13.out).2.1); rintro e w' ⟨rfl, ⟨nd, rfl⟩⟩; refine ⟨_, rfl, ?_⟩))
        go_ret
        exact ⟨ze, zs2 HB GE390 GE416⟩
       rw [if_neg c116] at H
       have c116b0 : decide (t472 < 0) = false := decide_eq_false c116
       clear c116
       by_cases c117 : t472 = t451
       rotate_left
       ·rw [if_neg c117] at H
        have c117b0 : (t472 == t451) = false := beq_eq_false_iff_ne.mpr c117
        have c117b1 : (t472 != t451) = true := bne_iff_ne.mpr c117
        obtain rfl := Option.some.inj H
        go_wp2_with (first | ((with_reducible refine gate_callee (f := 24) rfl ?_); refine zgl (N := some 132) Try.func24 #[.slice Ao97 t452.length co97, .int .i64 1] ?_; (with_reducible refine (laws_heldIntS.calls kj95 _ _ t452 1 t472 _ ?side1 ?side2 A115.out).mono ?_); (case side1 => repeat (first | exact (Kd.R_reads' HO_13.out).2.2 | (with_reducible refine Kd.C_alloc ?_ _) | (with_reducible refine Kd.C_drewN ?_ _) | (with_reducible refine Kd.C_drew ?_))); (case side2 => exact (Kd.R_reads' HO_13.out).2.1); rintro e w' ⟨rfl, ⟨nd, rfl⟩⟩; refine ⟨_, rfl, ?_⟩))
        go_ret
        exact ⟨ze, zs2 HB GE390 GE416⟩
       rw [if_pos c117] at H
       have c117b0 : (t472 == t451) = true := beq_iff_eq.mpr c117
       have c117b1 : (t472 != t451) = false := bne_eq_false_iff_eq.mpr c117
       clear c117
       obtain rfl := Option.some.inj H
       go_wp2_with (first | ((with_reducible refine gate_callee (f := 24) rfl ?_); refine zgl (N := some 132) Try.func24 #[.slice Ao97 t452.length co97, .int .i64 1] ?_; (with_reducible refine (laws_heldIntS.calls kj95 _ _ t452 1 t472 _ ?side1 ?side2 A115.out).mono ?_); (case side1 => repeat (first | exact (Kd.R_reads' HO_13.out).2.2 | (with_reducible refine Kd.C_alloc ?_ _) | (with_reducible refine Kd.C_drewN ?_ _) | (with_reducible refine Kd.C_drew ?_))); (case side2 => exact (Kd.R_reads' HO_13.out).2.1); rintro e w' ⟨rfl, ⟨nd, rfl⟩⟩; refine ⟨_, rfl, ?_⟩))
       go_ret
       exact ⟨ze, zs2 HB GE390 GE416⟩
end Go.Proofs.Ytidenmcoilmbcaa.QFnExactFlyGo
