/- The walk of what the law FnExactFlyShift reaches: laid by a program of this session (ownprint.py). -/
import Derived.Test.YtidenmcoilmbcaaQFnExactFlyShiftx0
import Derived.Test.YtidenmcoilmbcaaQFnExactFlyShiftx1
import Derived.Test.YtidenmcoilmbcaaQFnExactFlyShiftx2
import Derived.Test.YtidenmcoilmbcaaQFnExactFlyShiftx3
import Derived.Test.YtidenmcoilmbcaaQFnExactFlyShiftx6
import Derived.Test.YtidenmcoilmbcaaQFnExactFlyShiftx9
import Derived.Test.YtidenmcoilmbcaaQFnExactFlyShiftx10
namespace Go.Proofs.Ytidenmcoilmbcaa.QFnExactFlyShift
open Go.RowKit Go.Proofs.YtidenmcoilmbcaaW.PrintWords Go.Proofs.YtidenmcoilmbcaaW.PrintLast Go.Proofs.YtidenmcoilmbcaaW.PrintMore Go.Proofs.Ytidenmcoilmbcaa.Z
attribute [local go_sem] max2_int min2_int max_two min_two max_three min_three max_four min_four zdn   -- for this text's walks alone
set_option linter.unusedVariables false
set_option linter.unusedSimpArgs false
mutual
def laws_FnExactFlyShift.j0 : Nat → Int → Bool → Bool → Bool → Int → Int → List (S104) → Int → Int → Int → Int → List (S88) → Int → Int → Int → Int → List (S88) → Int → Int → Int → Int → List (S88) → Int → Int → Option (Bool)
 | 0, _, _, _, _, _, _, _, _, _, _, _, _, _, _, _, _, _, _, _, _, _, _, _, _ => none
 | k + 1, x1, x7, x10, x44, x234000, x234001, x234002, x234003, x234004, x251000, x251001, x251002, x251003, x251004, x259000, x259001, x259002, x259003, x259004, x268000, x268001, x268002, x268003, x268004 => if x44 = true then (some false) else ((laws_toFlyPath.f k x234000 x234001 x234002 x234003 x234004).bind fun bt269 => ((laws_eqFlyPath.f k x259000 x259001 x259002 x259003 x259004 bt269.1 bt269.2.1 bt269.2.2.1 bt269.2.2.2.1 bt269.2.2.2.2).bind fun t276 => (if t276 = true then ((laws_markFlyPath.f k x259000 x259001 x259002 x259003 x259004 1).bind fun bt277 => (if bt277.1 < 0 then (laws_FnExactFlyShift.j1 k x1 x7 true x234000 x234001 x234002 x234003 x234004 x251000 x251001 x251002 x251003 x251004 x268000 x268001 x268002 x268003 x268004) else ((laws_eqFlyPath.f k x268000 x268001 x268002 x268003 x268004 x251000 x251001 x251002 x251003 x251004).bind fun t279 => (if t279 = true then (laws_FnExactFlyShift.j1 k x1 x7 (x10 != x7) x234000 x234001 x234002 x234003 x234004 x251000 x251001 x251002 x251003 x251004 x268000 x268001 x268002 x268003 x268004) else (laws_FnExactFlyShift.j1 k x1 x7 true x234000 x234001 x234002 x234003 x234004 x251000 x251001 x251002 x251003 x251004 x268000 x268001 x268002 x268003 x268004))))) else (some false))))
def laws_FnExactFlyShift.j1 : Nat → Int → Bool → Bool → Int → Int → List (S104) → Int → Int → Int → Int → List (S88) → Int → Int → Int → Int → List (S88) → Int → Int → Option (Bool)
 | 0, _, _, _, _, _, _, _, _, _, _, _, _, _, _, _, _, _, _ => none
 | k + 1, x1, x7, x65, x234000, x234001, x234002, x234003, x234004, x251000, x251001, x251002, x251003, x251004, x268000, x268001, x268002, x268003, x268004 => if x65 = true then (some false) else ((laws_markFlyPath.f k x268000 x268001 x268002 x268003 x268004 1).bind fun bt280 => ((laws_heldFlyPath.f k x268000 x268001 bt280.2 x268003 x268004 1).bind fun t282 => (if t282 < 0 then (some false) else (if t282 = bt280.1 then ((laws_toFlyPath.f k x234000 x234001 x234002 x234003 x234004).bind fun bt283 => ((impl_FlyShift.f k bt283.1 bt283.2.1 bt283.2.2.1 bt283.2.2.2.1 bt283.2.2.2.2 x1).bind fun bt290 => ((laws_eqFlyPath.f k bt290.1 bt290.2.1 bt290.2.2.1 bt290.2.2.2.1 bt290.2.2.2.2.1 x251000 x251001 x251002 x251003 x251004).bind fun t299 => (if t299 = true then (laws_FnExactFlyShift.j2 k bt280.1 (bt290.2.2.2.2.2 != x7) x268000 x268001 bt280.2 x268003 x268004) else (laws_FnExactFlyShift.j2 k bt280.1 true x268000 x268001 bt280.2 x268003 x268004))))) else (some false)))))
def laws_FnExactFlyShift.j2 : Nat → Int → Bool → Int → Int → List (S88) → Int → Int → Option (Bool)
 | 0, _, _, _, _, _, _, _ => none
 | k + 1, x12, x92, x268000, x268001, x268002, x268003, x268004 => if x92 = true then (some false) else ((laws_heldFlyPath.f k x268000 x268001 x268002 x268003 x268004 1).bind fun t300 => (if t300 < 0 then (some false) else (if t300 = x12 then (some true) else (some false))))
end
def laws_FnExactFlyShift.f (k : Nat) (a0_0 : Int) (a0_1 : Int) (l0_2 : List (S104)) (a0_3 : Int) (a0_4 : Int) (a1 : Int) : Option (Bool) := (laws_szFlyPath.f a0_0 a0_1 l0_2 a0_3 a0_4 1048576).bind fun t234 => (if t234 < 0 then (some true) else ((laws_toFlyPath.f k a0_0 a0_1 l0_2 a0_3 a0_4).bind fun bt235 => ((spec_FlyShift.f k bt235.1 bt235.2.1 bt235.2.2.1 bt235.2.2.2.1 bt235.2.2.2.2 a1).bind fun bt242 => ((laws_toFlyPath.f k a0_0 a0_1 l0_2 a0_3 a0_4).bind fun bt251 => ((impl_FlyShift.f k bt251.1 bt251.2.1 bt251.2.2.1 bt251.2.2.2.1 bt251.2.2.2.2 a1).bind fun bt259 => ((laws_eqFlyPath.f k bt259.1 bt259.2.1 bt259.2.2.1 bt259.2.2.2.1 bt259.2.2.2.2.1 bt242.1 bt242.2.1 bt242.2.2.1 bt242.2.2.2.1 bt242.2.2.2.2.1).bind fun t268 => (if t268 = true then (laws_FnExactFlyShift.j0 k a1 bt242.2.2.2.2.2 bt259.2.2.2.2.2 (bt259.2.2.2.2.2 != bt242.2.2.2.2.2) a0_0 a0_1 l0_2 a0_3 a0_4 bt242.1 bt242.2.1 bt242.2.2.1 bt242.2.2.2.1 bt242.2.2.2.2.1 bt251.1 bt251.2.1 bt251.2.2.1 bt251.2.2.2.1 bt251.2.2.2.2 bt259.1 bt259.2.1 bt259.2.2.1 bt259.2.2.2.1 bt259.2.2.2.2.1) else (laws_FnExactFlyShift.j0 k a1 bt242.2.2.2.2.2 bt259.2.2.2.2.2 true a0_0 a0_1 l0_2 a0_3 a0_4 bt242.1 bt242.2.1 bt242.2.2.1 bt242.2.2.2.1 bt242.2.2.2.2.1 bt251.1 bt251.2.1 bt251.2.2.1 bt251.2.2.2.1 bt251.2.2.2.2 bt259.1 bt259.2.1 bt259.2.2.1 bt259.2.2.2.1 bt259.2.2.2.2.1))))))))
set_option maxHeartbeats 8000000 in
set_option maxRecDepth 100000 in
theorem laws_FnExactFlyShift.calls (k : Nat) (a0_0 : Int) (a0_1 : Int) (A0_2 : Option Addr) (c0_2 : Nat) (l0_2 : List (S104)) (a0_3 : Int) (a0_4 : Int) (a1 : Int) (r : Bool) (w : World) (hr0_2 : Kd.C k104 w A0_2 l0_2.length l0_2) (hc0_2 : l0_2.length ≤ c0_2) (h : laws_FnExactFlyShift.f k a0_0 a0_1 l0_2 a0_3 a0_4 a1 = some r) :
 Calls Try.prog 8 #[.agg #[.int .i64 a0_0, .int .i64 a0_1, .slice A0_2 l0_2.length c0_2, .int .i64 a0_3, .int .i64 a0_4], .int .i64 a1] w fun e w' => e = .returned (.bool r) ∧ Below w.heap.size w w' := by
 have hu26 := Try.underlying26
 have hu34 := Try.underlying34
 have HR0_2 := Aside0.mk hr0_2
 have HC0_2 := Aside0.mk hc0_2
 clear hr0_2 hc0_2
 have HB := Aside0.mk (Below.refl w.heap.size w)
 have H : ((laws_szFlyPath.f a0_0 a0_1 l0_2 a0_3 a0_4 1048576).bind fun t234 => (if t234 < 0 then (some true) else ((laws_toFlyPath.f k a0_0 a0_1 l0_2 a0_3 a0_4).bind fun bt235 => ((spec_FlyShift.f k bt235.1 bt235.2.1 bt235.2.2.1 bt235.2.2.2.1 bt235.2.2.2.2 a1).bind fun bt242 => ((laws_toFlyPath.f k a0_0 a0_1 l0_2 a0_3 a0_4).bind fun bt251 => ((impl_FlyShift.f k bt251.1 bt251.2.1 bt251.2.2.1 bt251.2.2.2.1 bt251.2.2.2.2 a1).bind fun bt259 => ((laws_eqFlyPath.f k bt259.1 bt259.2.1 bt259.2.2.1 bt259.2.2.2.1 bt259.2.2.2.2.1 bt242.1 bt242.2.1 bt242.2.2.1 bt242.2.2.2.1 bt242.2.2.2.2.1).bind fun t268 => (if t268 = true then (laws_FnExactFlyShift.j0 k a1 bt242.2.2.2.2.2 bt259.2.2.2.2.2 (bt259.2.2.2.2.2 != bt242.2.2.2.2.2) a0_0 a0_1 l0_2 a0_3 a0_4 bt242.1 bt242.2.1 bt242.2.2.1 bt242.2.2.2.1 bt242.2.2.2.2.1 bt251.1 bt251.2.1 bt251.2.2.1 bt251.2.2.2.1 bt251.2.2.2.2 bt259.1 bt259.2.1 bt259.2.2.1 bt259.2.2.2.1 bt259.2.2.2.2.1) else (laws_FnExactFlyShift.j0 k a1 bt242.2.2.2.2.2 bt259.2.2.2.2.2 true a0_0 a0_1 l0_2 a0_3 a0_4 bt242.1 bt242.2.1 bt242.2.2.1 bt242.2.2.2.1 bt242.2.2.2.2.1 bt251.1 bt251.2.1 bt251.2.2.1 bt251.2.2.2.1 bt251.2.2.2.2 bt259.1 bt259.2.1 bt259.2.2.1 bt259.2.2.2.1 bt259.2.2.2.2.1))))))))) = some r := h
 clear h
 replace H := Option.bind_eq_some_iff.mp H
 obtain ⟨t234, A30, H⟩ := H
 replace H : (if t234 < 0 then (some true) else ((laws_toFlyPath.f k a0_0 a0_1 l0_2 a0_3 a0_4).bind fun bt235 => ((spec_FlyShift.f k bt235.1 bt235.2.1 bt235.2.2.1 bt235.2.2.2.1 bt235.2.2.2.2 a1).bind fun bt242 => ((laws_toFlyPath.f k a0_0 a0_1 l0_2 a0_3 a0_4).bind fun bt251 => ((impl_FlyShift.f k bt251.1 bt251.2.1 bt251.2.2.1 bt251.2.2.2.1 bt251.2.2.2.2 a1).bind fun bt259 => ((laws_eqFlyPath.f k bt259.1 bt259.2.1 bt259.2.2.1 bt259.2.2.2.1 bt259.2.2.2.2.1 bt242.1 bt242.2.1 bt242.2.2.1 bt242.2.2.2.1 bt242.2.2.2.2.1).bind fun t268 => (if t268 = true then (laws_FnExactFlyShift.j0 k a1 bt242.2.2.2.2.2 bt259.2.2.2.2.2 (bt259.2.2.2.2.2 != bt242.2.2.2.2.2) a0_0 a0_1 l0_2 a0_3 a0_4 bt242.1 bt242.2.1 bt242.2.2.1 bt242.2.2.2.1 bt242.2.2.2.2.1 bt251.1 bt251.2.1 bt251.2.2.1 bt251.2.2.2.1 bt251.2.2.2.2 bt259.1 bt259.2.1 bt259.2.2.1 bt259.2.2.2.1 bt259.2.2.2.2.1) else (laws_FnExactFlyShift.j0 k a1 bt242.2.2.2.2.2 bt259.2.2.2.2.2 true a0_0 a0_1 l0_2 a0_3 a0_4 bt242.1 bt242.2.1 bt242.2.2.1 bt242.2.2.2.1 bt242.2.2.2.2.1 bt251.1 bt251.2.1 bt251.2.2.1 bt251.2.2.2.1 bt251.2.2.2.2 bt259.1 bt259.2.1 bt259.2.2.1 bt259.2.2.2.1 bt259.2.2.2.2.1)))))))) = some r := H
 have A3 := Aside0.mk A30
 clear A30
 by_cases c4 : t234 < 0
 ·rw [if_pos c4] at H
  have c4b0 : decide (t234 < 0) = true := decide_eq_true c4
  clear c4
  obtain rfl := Option.some.inj H
  go_enter Try.func8, Try.ntmps8
  go_wp2_with (first | ((with_reducible refine gate_dst (N := 2) rfl ?_); refine box_event (by rfl) (N := 2) (by rfl) (cs := #[.int .i64 a0_0, .int .i64 a0_1, .slice A0_2 l0_2.length c0_2, .int .i64 a0_3, .int .i64 a0_4]) (t := 26) zg ?_; intro gb233 hg w5 hbox hb; have n0_ := Aside0.mk (below_step (zs0 HB) hb); have n1_ := Aside0.mk (hbox); have n2_ := Aside0.mk ((by rw [hg]; exact (below_size (zs0 HB)) : w.heap.size ≤ gb233)); have n3_ := Aside0.mk ((by rw [hg]; exact (below_size (zs0 HB)) : w.heap.size ≤ gb233)); clear HB; have HB := n0_; have BK233 := n1_; have GW233 := n2_; have GE233 := n3_; clear n0_ n1_ n2_ n3_; clear hb hbox hg; obtain ⟨hcz6_0, hcz6_1, hcz6_2, hcz6_3, hcz6_4⟩ := zd5 BK233; obtain ⟨hfz6_0, hfz6_1, hfz6_2, hfz6_3, hfz6_4⟩ := zn5 BK233) | ((with_reducible refine gate_callee (f := 15) rfl ?_); refine goesL_ (some 18) rfl rfl Try.func15 (by kernel_rfl) rfl #[.agg #[.int .i64 a0_0, .int .i64 a0_1, .slice A0_2 l0_2.length c0_2, .int .i64 a0_3, .int .i64 a0_4], .int .i64 1048576] rfl zl ?_; (with_reducible refine (laws_szFlyPath.calls a0_0 a0_1 _ _ l0_2 a0_3 a0_4 1048576 t234 _ ?side1 ?side2 A3.out).mono ?_); (case side1 => exact zC HR0_2 HB); (case side2 => exact HC0_2.out); rintro e w7 ⟨rfl, hb⟩; refine ⟨_, rfl, ?_⟩; have n0_ := zb BK233 hb; have n1_ := Aside0.mk (below_step (zs1 HB GE233) hb); clear BK233 HB; revert n0_ n1_; intro BK233 HB; (try clear hb); (try clear hb2); (try clear hk); (try clear hi)))
  go_ret
  exact ⟨ze, zs1 HB GE233⟩
 rw [if_neg c4] at H
 have c4b0 : decide (t234 < 0) = false := decide_eq_false c4
 clear c4
 replace H := Option.bind_eq_some_iff.mp H
 obtain ⟨⟨t235, t236, t237, t240, t241⟩, A80, H⟩ := H
 replace H : ((spec_FlyShift.f k t235 t236 t237 t240 t241 a1).bind fun bt242 => ((laws_toFlyPath.f k a0_0 a0_1 l0_2 a0_3 a0_4).bind fun bt251 => ((impl_FlyShift.f k bt251.1 bt251.2.1 bt251.2.2.1 bt251.2.2.2.1 bt251.2.2.2.2 a1).bind fun bt259 => ((laws_eqFlyPath.f k bt259.1 bt259.2.1 bt259.2.2.1 bt259.2.2.2.1 bt259.2.2.2.2.1 bt242.1 bt242.2.1 bt242.2.2.1 bt242.2.2.2.1 bt242.2.2.2.2.1).bind fun t268 => (if t268 = true then (laws_FnExactFlyShift.j0 k a1 bt242.2.2.2.2.2 bt259.2.2.2.2.2 (bt259.2.2.2.2.2 != bt242.2.2.2.2.2) a0_0 a0_1 l0_2 a0_3 a0_4 bt242.1 bt242.2.1 bt242.2.2.1 bt242.2.2.2.1 bt242.2.2.2.2.1 bt251.1 bt251.2.1 bt251.2.2.1 bt251.2.2.2.1 bt251.2.2.2.2 bt259.1 bt259.2.1 bt259.2.2.1 bt259.2.2.2.1 bt259.2.2.2.2.1) else (laws_FnExactFlyShift.j0 k a1 bt242.2.2.2.2.2 bt259.2.2.2.2.2 true a0_0 a0_1 l0_2 a0_3 a0_4 bt242.1 bt242.2.1 bt242.2.2.1 bt242.2.2.2.1 bt242.2.2.2.2.1 bt251.1 bt251.2.1 bt251.2.2.1 bt251.2.2.2.1 bt251.2.2.2.2 bt259.1 bt259.2.1 bt259.2.2.1 bt259.2.2.2.1 bt259.2.2.2.2.1)))))) = some r := H
 have A8 := Aside0.mk A80
 clear A80
 replace H := Option.bind_eq_some_iff.mp H
 obtain ⟨⟨t242, t243, t244, t247, t248, t249⟩, A90, H⟩ := H
 replace H : ((laws_toFlyPath.f k a0_0 a0_1 l0_2 a0_3 a0_4).bind fun bt251 => ((impl_FlyShift.f k bt251.1 bt251.2.1 bt251.2.2.1 bt251.2.2.2.1 bt251.2.2.2.2 a1).bind fun bt259 => ((laws_eqFlyPath.f k bt259.1 bt259.2.1 bt259.2.2.1 bt259.2.2.2.1 bt259.2.2.2.2.1 t242 t243 t244 t247 t248).bind fun t268 => (if t268 = true then (laws_FnExactFlyShift.j0 k a1 t249 bt259.2.2.2.2.2 (bt259.2.2.2.2.2 != t249) a0_0 a0_1 l0_2 a0_3 a0_4 t242 t243 t244 t247 t248 bt251.1 bt251.2.1 bt251.2.2.1 bt251.2.2.2.1 bt251.2.2.2.2 bt259.1 bt259.2.1 bt259.2.2.1 bt259.2.2.2.1 bt259.2.2.2.2.1) else (laws_FnExactFlyShift.j0 k a1 t249 bt259.2.2.2.2.2 true a0_0 a0_1 l0_2 a0_3 a0_4 t242 t243 t244 t247 t248 bt251.1 bt251.2.1 bt251.2.2.1 bt251.2.2.2.1 bt251.2.2.2.2 bt259.1 bt259.2.1 bt259.2.2.1 bt259.2.2.2.1 bt259.2.2.2.2.1))))) = some r := H
 have A9 := Aside0.mk A90
 clear A90
 replace H := Option.bind_eq_some_iff.mp H
 obtain ⟨⟨t251, t252, t253, t256, t257⟩, A100, H⟩ := H
 replace H : ((impl_FlyShift.f k t251 t252 t253 t256 t257 a1).bind fun bt259 => ((laws_eqFlyPath.f k bt259.1 bt259.2.1 bt259.2.2.1 bt259.2.2.2.1 bt259.2.2.2.2.1 t242 t243 t244 t247 t248).bind fun t268 => (if t268 = true then (laws_FnExactFlyShift.j0 k a1 t249 bt259.2.2.2.2.2 (bt259.2.2.2.2.2 != t249) a0_0 a0_1 l0_2 a0_3 a0_4 t242 t243 t244 t247 t248 t251 t252 t253 t256 t257 bt259.1 bt259.2.1 bt259.2.2.1 bt259.2.2.2.1 bt259.2.2.2.2.1) else (laws_FnExactFlyShift.j0 k a1 t249 bt259.2.2.2.2.2 true a0_0 a0_1 l0_2 a0_3 a0_4 t242 t243 t244 t247 t248 t251 t252 t253 t256 t257 bt259.1 bt259.2.1 bt259.2.2.1 bt259.2.2.2.1 bt259.2.2.2.2.1)))) = some r := H
 have A10 := Aside0.mk A100
 clear A100
 replace H := Option.bind_eq_some_iff.mp H
 obtain ⟨⟨t259, t260, t261, t264, t265, t266⟩, A110, H⟩ := H
 replace H : ((laws_eqFlyPath.f k t259 t260 t261 t264 t265 t242 t243 t244 t247 t248).bind fun t268 => (if t268 = true then (laws_FnExactFlyShift.j0 k a1 t249 t266 (t266 != t249) a0_0 a0_1 l0_2 a0_3 a0_4 t242 t243 t244 t247 t248 t251 t252 t253 t256 t257 t259 t260 t261 t264 t265) else (laws_FnExactFlyShift.j0 k a1 t249 t266 true a0_0 a0_1 l0_2 a0_3 a0_4 t242 t243 t244 t247 t248 t251 t252 t253 t256 t257 t259 t260 t261 t264 t265))) = some r := H
 have A11 := Aside0.mk A110
 clear A110
 have HC12 := Aside0.mk H
 clear H
 go_enter Try.func8, Try.ntmps8
 go_upto_region 8 with (first | ((with_reducible refine gate_dst (N := 2) rfl ?_); refine box_event (by rfl) (N := 2) (by rfl) (cs := #[.int .i64 a0_0, .int .i64 a0_1, .slice A0_2 l0_2.length c0_2, .int .i64 a0_3, .int .i64 a0_4]) (t := 26) zg ?_; intro gb233 hg w13 hbox hb; have n0_ := Aside0.mk (below_step (zs0 HB) hb); have n1_ := Aside0.mk (hbox); have n2_ := Aside0.mk ((by rw [hg]; exact (below_size (zs0 HB)) : w.heap.size ≤ gb233)); have n3_ := Aside0.mk ((by rw [hg]; exact (below_size (zs0 HB)) : w.heap.size ≤ gb233)); clear HB; have HB := n0_; have BK233 := n1_; have GW233 := n2_; have GE233 := n3_; clear n0_ n1_ n2_ n3_; clear hb hbox hg; obtain ⟨hcz14_0, hcz14_1, hcz14_2, hcz14_3, hcz14_4⟩ := zd5 BK233; obtain ⟨hfz14_0, hfz14_1, hfz14_2, hfz14_3, hfz14_4⟩ := zn5 BK233) | ((with_reducible refine gate_callee (f := 15) rfl ?_); refine goesL_ (some 18) rfl rfl Try.func15 (by kernel_rfl) rfl #[.agg #[.int .i64 a0_0, .int .i64 a0_1, .slice A0_2 l0_2.length c0_2, .int .i64 a0_3, .int .i64 a0_4], .int .i64 1048576] rfl zl ?_; (with_reducible refine (laws_szFlyPath.calls a0_0 a0_1 _ _ l0_2 a0_3 a0_4 1048576 t234 _ ?side1 ?side2 A3.out).mono ?_); (case side1 => exact zC HR0_2 HB); (case side2 => exact HC0_2.out); rintro e w15 ⟨rfl, hb⟩; refine ⟨_, rfl, ?_⟩; have n0_ := zb BK233 hb; have n1_ := Aside0.mk (below_step (zs1 HB GE233) hb); clear BK233 HB; revert n0_ n1_; intro BK233 HB; (try clear hb); (try clear hb2); (try clear hk); (try clear hi); obtain ⟨hcz16_0, hcz16_1, hcz16_2, hcz16_3, hcz16_4⟩ := zd5 BK233; obtain ⟨hfz16_0, hfz16_1, hfz16_2, hfz16_3, hfz16_4⟩ := zn5 BK233) | ((with_reducible refine gate_callee (f := 17) rfl ?_); refine goesL_ (some 23) rfl rfl Try.func17 (by kernel_rfl) rfl #[.agg #[.int .i64 a0_0, .int .i64 a0_1, .slice A0_2 l0_2.length c0_2, .int .i64 a0_3, .int .i64 a0_4]] rfl zl ?_; (with_reducible refine (laws_toFlyPath.calls k a0_0 a0_1 _ _ l0_2 a0_3 a0_4 t235 t236 t237 t240 t241 _ ?side1 ?side2 A8.out).mono ?_); (case side1 => exact zC HR0_2 HB); (case side2 => exact HC0_2.out); rintro e w17 ⟨v238, rfl, ho0, hb⟩; refine ⟨_, rfl, ?_⟩; have n0_ := Aside0.mk (Kd.R_lower ho0 (below_size (zs1 HB GE233))); have n1_ := zb BK233 hb; have n2_ := Aside0.mk (below_step (zs1 HB GE233) hb); clear BK233; clear HB; have HO239 := n0_; have BK233 := n1_; have HB := n2_; clear n0_ n1_ n2_; (try clear hb); (try clear hb2); (try clear hk); (try clear hi); (try clear ho0); obtain ⟨Ao18, co18, eo18⟩ := Kd.R_slice HO239.out; subst eo18) | ((with_reducible refine gate_callee (f := 35) rfl ?_); refine goesL_ (some 25) rfl rfl Try.func35 (by kernel_rfl) rfl #[.agg #[.int .i64 t235, .int .i64 t236, .slice Ao18 t237.length co18, .int .i64 t240, .int .i64 t241], .int .i64 a1] rfl zl ?_; (with_reducible refine (spec_FlyShift.calls k t235 t236 _ _ t237 t240 t241 a1 t242 t243 t244 t247 t248 t249 _ ?side1 ?side2 A9.out).mono ?_); (case side1 => repeat (first | exact (Kd.R_reads' HO239.out).2.2 | (with_reducible refine Kd.C_alloc ?_ _) | (with_reducible refine Kd.C_drewN ?_ _) | (with_reducible refine Kd.C_drew ?_))); (case side2 => exact (Kd.R_reads' HO239.out).2.1); rintro e w19 ⟨v245, rfl, ho0, hb⟩; refine ⟨_, rfl, ?_⟩; have n0_ := Aside0.mk (Kd.R_elder' (zr HO239) (Kd.R_base ho0) hb); have n1_ := Aside0.mk (Kd.R_lower (Kd.R_new' ho0 (Kd.R_lt (zr HO239))) (below_size (zs1 HB GE233))); have n2_ := zb BK233 hb; have n3_ := Aside0.mk (below_step (zs1 HB GE233) hb); clear HO239; clear BK233; clear HB; have HO239 := n0_; have HO246 := n1_; have BK233 := n2_; have HB := n3_; clear n0_ n1_ n2_ n3_; (try clear hb); (try clear hb2); (try clear hk); (try clear hi); (try clear ho0)) | ((with_reducible refine gate_dst (N := 6) rfl ?_); refine box_event (by rfl) (N := 6) (by rfl) (cs := #[.int .i64 0, .int .i64 0, .slice none 0 0, .int .i64 0, .int .i64 0]) (t := 34) zg ?_; intro gb250 hg w20 hbox hb; have n0_ := Aside0.mk (Kd.R_below (zr HO239) hb); have n1_ := Aside0.mk (Kd.R_below (zr HO246) hb); have n2_ := zb BK233 hb; have n3_ := Aside0.mk (below_step (zs1 HB GE233) hb); have n4_ := Aside0.mk (hbox); have n5_ := Aside0.mk ((by rw [hg]; exact (below_size (zs1 HB GE233)) : w.heap.size ≤ gb250)); have n6_ := Aside0.mk ((by rw [hg]; exact (below_size (zs1 HB GE233)) : w.heap.size ≤ gb250)); have n7_ := Aside0.mk ((by rw [hg]; exact Nat.ne_of_lt (blk_lt (g := gb233) (o := .cells #[.int .i64 a0_0, .int .i64 a0_1, .slice A0_2 l0_2.length c0_2, .int .i64 a0_3, .int .i64 a0_4] 26 (0, 0)) (zh BK233)) : gb233 ≠ gb250)); have n8_ := Aside0.mk ((by rw [hg]; exact Nat.ne_of_gt (blk_lt (g := gb233) (o := .cells #[.int .i64 a0_0, .int .i64 a0_1, .slice A0_2 l0_2.length c0_2, .int .i64 a0_3, .int .i64 a0_4] 26 (0, 0)) (zh BK233)) : gb250 ≠ gb233)); clear HO239; clear HO246; clear BK233; clear HB; have HO239 := n0_; have HO246 := n1_; have BK233 := n2_; have HB := n3_; have BK250 := n4_; have GW250 := n5_; have GE250 := n6_; have NB233_250 := n7_; have NB250_233 := n8_; clear n0_ n1_ n2_ n3_ n4_ n5_ n6_ n7_ n8_; clear hb hbox hg; have hnb21 := NB250_233.out; have hnc21 := NB233_250.out; obtain ⟨hcz22_0, hcz22_1, hcz22_2, hcz22_3, hcz22_4⟩ := zd5 BK250; obtain ⟨hfz22_0, hfz22_1, hfz22_2, hfz22_3, hfz22_4⟩ := zn5 BK250; obtain ⟨Ao23, co23, eo23⟩ := Kd.R_slice HO246.out; subst eo23; obtain ⟨hcz24_0, hcz24_1, hcz24_2, hcz24_3, hcz24_4⟩ := zd5 BK233; obtain ⟨hfz24_0, hfz24_1, hfz24_2, hfz24_3, hfz24_4⟩ := zn5 BK233) | ((with_reducible refine gate_callee (f := 17) rfl ?_); refine goesL_ (some 29) rfl rfl Try.func17 (by kernel_rfl) rfl #[.agg #[.int .i64 a0_0, .int .i64 a0_1, .slice A0_2 l0_2.length c0_2, .int .i64 a0_3, .int .i64 a0_4]] rfl zl ?_; (with_reducible refine (laws_toFlyPath.calls k a0_0 a0_1 _ _ l0_2 a0_3 a0_4 t251 t252 t253 t256 t257 _ ?side1 ?side2 A10.out).mono ?_); (case side1 => exact Kd.C_below HR0_2.out (zs2 HB GE233 GE250)); (case side2 => exact HC0_2.out); rintro e w25 ⟨v254, rfl, ho0, hb⟩; refine ⟨_, rfl, ?_⟩; have n0_ := Aside0.mk (Kd.R_elder' (by (with_reducible repeat (first | apply Kd.R_alloc | apply Kd.R_drewN | apply Kd.R_drew)); exact (Kd.R_mono (Kd.R_far (p := ⟨gb250, 4, none⟩) (Kd.R_far (p := ⟨gb250, 3, none⟩) (Kd.R_far (p := ⟨gb250, 2, none⟩) (Kd.R_far (p := ⟨gb250, 1, none⟩) (Kd.R_far (p := ⟨gb250, 0, none⟩) (Kd.R_types HO239.out BK250.out (by decide)) (fun _ hk => hk.2) (.int .i64 t242)) (fun _ hk => hk.2) (.int .i64 t243)) (fun _ hk => hk.2) (.slice Ao23 t244.length co23)) (fun _ hk => hk.2) (.int .i64 t247)) (fun _ hk => hk.2) (.int .i64 t248)) (fun _ h_ => h_.1))) (Kd.R_base ho0) hb); have n1_ := Aside0.mk (Kd.R_elder' (by (with_reducible repeat (first | apply Kd.R_alloc | apply Kd.R_drewN | apply Kd.R_drew)); exact (Kd.R_mono (Kd.R_far (p := ⟨gb250, 4, none⟩) (Kd.R_far (p := ⟨gb250, 3, none⟩) (Kd.R_far (p := ⟨gb250, 2, none⟩) (Kd.R_far (p := ⟨gb250, 1, none⟩) (Kd.R_far (p := ⟨gb250, 0, none⟩) (Kd.R_types HO246.out BK250.out (by decide)) (fun _ hk => hk.2) (.int .i64 t242)) (fun _ hk => hk.2) (.int .i64 t243)) (fun _ hk => hk.2) (.slice Ao23 t244.length co23)) (fun _ hk => hk.2) (.int .i64 t247)) (fun _ hk => hk.2) (.int .i64 t248)) (fun _ h_ => h_.1))) (Kd.R_base ho0) hb); have n2_ := Aside0.mk (Kd.R_lower (Kd.R_new' (Kd.R_new' ho0 (Kd.R_lt (by (with_reducible repeat (first | apply Kd.R_alloc | apply Kd.R_drewN | apply Kd.R_drew)); exact (Kd.R_mono (Kd.R_far (p := ⟨gb250, 4, none⟩) (Kd.R_far (p := ⟨gb250, 3, none⟩) (Kd.R_far (p := ⟨gb250, 2, none⟩) (Kd.R_far (p := ⟨gb250, 1, none⟩) (Kd.R_far (p := ⟨gb250, 0, none⟩) (Kd.R_types HO239.out BK250.out (by decide)) (fun _ hk => hk.2) (.int .i64 t242)) (fun _ hk => hk.2) (.int .i64 t243)) (fun _ hk => hk.2) (.slice Ao23 t244.length co23)) (fun _ hk => hk.2) (.int .i64 t247)) (fun _ hk => hk.2) (.int .i64 t248)) (fun _ h_ => h_.1))))) (Kd.R_lt (by (with_reducible repeat (first | apply Kd.R_alloc | apply Kd.R_drewN | apply Kd.R_drew)); exact (Kd.R_mono (Kd.R_far (p := ⟨gb250, 4, none⟩) (Kd.R_far (p := ⟨gb250, 3, none⟩) (Kd.R_far (p := ⟨gb250, 2, none⟩) (Kd.R_far (p := ⟨gb250, 1, none⟩) (Kd.R_far (p := ⟨gb250, 0, none⟩) (Kd.R_types HO246.out BK250.out (by decide)) (fun _ hk => hk.2) (.int .i64 t242)) (fun _ hk => hk.2) (.int .i64 t243)) (fun _ hk => hk.2) (.slice Ao23 t244.length co23)) (fun _ hk => hk.2) (.int .i64 t247)) (fun _ hk => hk.2) (.int .i64 t248)) (fun _ h_ => h_.1))))) (below_size (zs2 HB GE233 GE250))); have n3_ := Aside0.mk (blk_below (g := gb233) (o := .cells #[.int .i64 a0_0, .int .i64 a0_1, .slice A0_2 l0_2.length c0_2, .int .i64 a0_3, .int .i64 a0_4] 26 (0, 0)) (by (with_reducible repeat (first | refine blk_drewN ?_ _ | refine blk_drew ?_ | refine blk_alloc ?_ _)); refine blk_far ?_ NB233_250.out _; (with_reducible repeat (first | refine blk_drewN ?_ _ | refine blk_drew ?_ | refine blk_alloc ?_ _)); refine blk_far ?_ NB233_250.out _; (with_reducible repeat (first | refine blk_drewN ?_ _ | refine blk_drew ?_ | refine blk_alloc ?_ _)); refine blk_far ?_ NB233_250.out _; (with_reducible repeat (first | refine blk_drewN ?_ _ | refine blk_drew ?_ | refine blk_alloc ?_ _)); refine blk_far ?_ NB233_250.out _; (with_reducible repeat (first | refine blk_drewN ?_ _ | refine blk_drew ?_ | refine blk_alloc ?_ _)); refine blk_far ?_ NB233_250.out _; (with_reducible repeat (first | refine blk_drewN ?_ _ | refine blk_drew ?_ | refine blk_alloc ?_ _)); exact BK233.out) hb); have n4_ := Aside0.mk (blk_below (g := gb250) (o := .cells #[.int .i64 t242, .int .i64 t243, .slice Ao23 t244.length co23, .int .i64 t247, .int .i64 t248] 34 (0, 0)) (by (with_reducible repeat (first | refine blk_drewN ?_ _ | refine blk_drew ?_ | refine blk_alloc ?_ _)); refine blk_put (cs := #[.int .i64 t242, .int .i64 t243, .slice Ao23 t244.length co23, .int .i64 t247, .int .i64 0]) ?_ 4 _ rfl; (with_reducible repeat (first | refine blk_drewN ?_ _ | refine blk_drew ?_ | refine blk_alloc ?_ _)); refine blk_put (cs := #[.int .i64 t242, .int .i64 t243, .slice Ao23 t244.length co23, .int .i64 0, .int .i64 0]) ?_ 3 _ rfl; (with_reducible repeat (first | refine blk_drewN ?_ _ | refine blk_drew ?_ | refine blk_alloc ?_ _)); refine blk_put (cs := #[.int .i64 t242, .int .i64 t243, .slice none 0 0, .int .i64 0, .int .i64 0]) ?_ 2 _ rfl; (with_reducible repeat (first | refine blk_drewN ?_ _ | refine blk_drew ?_ | refine blk_alloc ?_ _)); refine blk_put (cs := #[.int .i64 t242, .int .i64 0, .slice none 0 0, .int .i64 0, .int .i64 0]) ?_ 1 _ rfl; (with_reducible repeat (first | refine blk_drewN ?_ _ | refine blk_drew ?_ | refine blk_alloc ?_ _)); refine blk_put (cs := #[.int .i64 0, .int .i64 0, .slice none 0 0, .int .i64 0, .int .i64 0]) ?_ 0 _ rfl; (with_reducible repeat (first | refine blk_drewN ?_ _ | refine blk_drew ?_ | refine blk_alloc ?_ _)); exact BK250.out) hb); have n5_ := Aside0.mk (below_step (zs2 HB GE233 GE250) hb); clear HO239; clear HO246; clear BK233; clear BK250; clear HB; have HO239 := n0_; have HO246 := n1_; have HO255 := n2_; have BK233 := n3_; have BK250 := n4_; have HB := n5_; clear n0_ n1_ n2_ n3_ n4_ n5_; (try clear hb); (try clear hb2); (try clear hk); (try clear hi); (try clear ho0)) | ((with_reducible refine gate_dst (N := 8) rfl ?_); refine box_event (by rfl) (N := 8) (by rfl) (cs := #[.int .i64 0, .int .i64 0, .slice none 0 0, .int .i64 0, .int .i64 0]) (t := 34) zg ?_; intro gb258 hg w26 hbox hb; have n0_ := Aside0.mk (Kd.R_below (zr HO239) hb); have n1_ := Aside0.mk (Kd.R_below (zr HO246) hb); have n2_ := Aside0.mk (Kd.R_below (zr HO255) hb); have n3_ := zb BK233 hb; have n4_ := zb BK250 hb; have n5_ := Aside0.mk (below_step (zs2 HB GE233 GE250) hb); have n6_ := Aside0.mk (hbox); have n7_ := Aside0.mk ((by rw [hg]; exact (below_size (zs2 HB GE233 GE250)) : w.heap.size ≤ gb258)); have n8_ := Aside0.mk ((by rw [hg]; exact (below_size (zs2 HB GE233 GE250)) : w.heap.size ≤ gb258)); have n9_ := Aside0.mk ((by rw [hg]; exact Nat.ne_of_lt (blk_lt (g := gb233) (o := .cells #[.int .i64 a0_0, .int .i64 a0_1, .slice A0_2 l0_2.length c0_2, .int .i64 a0_3, .int .i64 a0_4] 26 (0, 0)) (zh BK233)) : gb233 ≠ gb258)); have n10_ := Aside0.mk ((by rw [hg]; exact Nat.ne_of_gt (blk_lt (g := gb233) (o := .cells #[.int .i64 a0_0, .int .i64 a0_1, .slice A0_2 l0_2.length c0_2, .int .i64 a0_3, .int .i64 a0_4] 26 (0, 0)) (zh BK233)) : gb258 ≠ gb233)); have n11_ := Aside0.mk ((by rw [hg]; exact Nat.ne_of_lt (blk_lt (g := gb250) (o := .cells #[.int .i64 t242, .int .i64 t243, .slice Ao23 t244.length co23, .int .i64 t247, .int .i64 t248] 34 (0, 0)) (zh BK250)) : gb250 ≠ gb258)); have n12_ := Aside0.mk ((by rw [hg]; exact Nat.ne_of_gt (blk_lt (g := gb250) (o := .cells #[.int .i64 t242, .int .i64 t243, .slice Ao23 t244.length co23, .int .i64 t247, .int .i64 t248] 34 (0, 0)) (zh BK250)) : gb258 ≠ gb250)); clear HO239; clear HO246; clear HO255; clear BK233; clear BK250; clear HB; have HO239 := n0_; have HO246 := n1_; have HO255 := n2_; have BK233 := n3_; have BK250 := n4_; have HB := n5_; have BK258 := n6_; have GW258 := n7_; have GE258 := n8_; have NB233_258 := n9_; have NB258_233 := n10_; have NB250_258 := n11_; have NB258_250 := n12_; clear n0_ n1_ n2_ n3_ n4_ n5_ n6_ n7_ n8_ n9_ n10_ n11_ n12_; clear hb hbox hg; have hnb27 := NB258_233.out; have hnc27 := NB233_258.out; have hnb28 := NB258_250.out; have hnc28 := NB250_258.out; obtain ⟨hcz29_0, hcz29_1, hcz29_2, hcz29_3, hcz29_4⟩ := zd5 BK258; obtain ⟨hfz29_0, hfz29_1, hfz29_2, hfz29_3, hfz29_4⟩ := zn5 BK258; obtain ⟨Ao30, co30, eo30⟩ := Kd.R_slice HO255.out; subst eo30) | ((with_reducible refine gate_callee (f := 36) rfl ?_); refine goesL_ (some 33) rfl rfl Try.func36 (by kernel_rfl) rfl #[.agg #[.int .i64 t251, .int .i64 t252, .slice Ao30 t253.length co30, .int .i64 t256, .int .i64 t257], .int .i64 a1] rfl zl ?_; (with_reducible refine (impl_FlyShift.calls k t251 t252 _ _ t253 t256 t257 a1 t259 t260 t261 t264 t265 t266 _ ?side1 ?side2 A11.out).mono ?_); (case side1 => refine (Kd.R_reads' (e := 88) (base := w.heap.size) (ok := fun k_ => ((True ∧ some k_ ≠ (.slice Ao18 t237.length co18 : Value).ownBlock) ∧ some k_ ≠ (.slice Ao23 t244.length co23 : Value).ownBlock)) (n := t253.length) (c := co30) ?_).2.2; exact (by (with_reducible repeat (first | apply Kd.R_alloc | apply Kd.R_drewN | apply Kd.R_drew)); exact (Kd.R_mono (Kd.R_far (p := ⟨gb258, 4, none⟩) (Kd.R_far (p := ⟨gb258, 3, none⟩) (Kd.R_far (p := ⟨gb258, 2, none⟩) (Kd.R_far (p := ⟨gb258, 1, none⟩) (Kd.R_far (p := ⟨gb258, 0, none⟩) (Kd.R_types HO255.out BK258.out (by decide)) (fun _ hk => hk.2) (.int .i64 t251)) (fun _ hk => hk.2) (.int .i64 t252)) (fun _ hk => hk.2) (.slice Ao30 t253.length co30)) (fun _ hk => hk.2) (.int .i64 t256)) (fun _ hk => hk.2) (.int .i64 t257)) (fun _ h_ => h_.1)))); (case side2 => exact (Kd.R_reads' HO255.out).2.1); rintro e w31 ⟨v262, rfl, ho0, hb⟩; refine ⟨_, rfl, ?_⟩; have n0_ := Aside0.mk (Kd.R_elder' (by (with_reducible repeat (first | apply Kd.R_alloc | apply Kd.R_drewN | apply Kd.R_drew)); exact (Kd.R_mono (Kd.R_far (p := ⟨gb258, 4, none⟩) (Kd.R_far (p := ⟨gb258, 3, none⟩) (Kd.R_far (p := ⟨gb258, 2, none⟩) (Kd.R_far (p := ⟨gb258, 1, none⟩) (Kd.R_far (p := ⟨gb258, 0, none⟩) (Kd.R_types HO239.out BK258.out (by decide)) (fun _ hk => hk.2) (.int .i64 t251)) (fun _ hk => hk.2) (.int .i64 t252)) (fun _ hk => hk.2) (.slice Ao30 t253.length co30)) (fun _ hk => hk.2) (.int .i64 t256)) (fun _ hk => hk.2) (.int .i64 t257)) (fun _ h_ => h_.1))) (Kd.R_base ho0) hb); have n1_ := Aside0.mk (Kd.R_elder' (by (with_reducible repeat (first | apply Kd.R_alloc | apply Kd.R_drewN | apply Kd.R_drew)); exact (Kd.R_mono (Kd.R_far (p := ⟨gb258, 4, none⟩) (Kd.R_far (p := ⟨gb258, 3, none⟩) (Kd.R_far (p := ⟨gb258, 2, none⟩) (Kd.R_far (p := ⟨gb258, 1, none⟩) (Kd.R_far (p := ⟨gb258, 0, none⟩) (Kd.R_types HO246.out BK258.out (by decide)) (fun _ hk => hk.2) (.int .i64 t251)) (fun _ hk => hk.2) (.int .i64 t252)) (fun _ hk => hk.2) (.slice Ao30 t253.length co30)) (fun _ hk => hk.2) (.int .i64 t256)) (fun _ hk => hk.2) (.int .i64 t257)) (fun _ h_ => h_.1))) (Kd.R_base ho0) hb); have n2_ := Aside0.mk (Kd.R_elder' (by (with_reducible repeat (first | apply Kd.R_alloc | apply Kd.R_drewN | apply Kd.R_drew)); exact (Kd.R_mono (Kd.R_far (p := ⟨gb258, 4, none⟩) (Kd.R_far (p := ⟨gb258, 3, none⟩) (Kd.R_far (p := ⟨gb258, 2, none⟩) (Kd.R_far (p := ⟨gb258, 1, none⟩) (Kd.R_far (p := ⟨gb258, 0, none⟩) (Kd.R_types HO255.out BK258.out (by decide)) (fun _ hk => hk.2) (.int .i64 t251)) (fun _ hk => hk.2) (.int .i64 t252)) (fun _ hk => hk.2) (.slice Ao30 t253.length co30)) (fun _ hk => hk.2) (.int .i64 t256)) (fun _ hk => hk.2) (.int .i64 t257)) (fun _ h_ => h_.1))) (Kd.R_base ho0) hb); have n3_ := Aside0.mk (Kd.R_lower (Kd.R_new' (Kd.R_new' (Kd.R_new' ho0 (Kd.R_lt (by (with_reducible repeat (first | apply Kd.R_alloc | apply Kd.R_drewN | apply Kd.R_drew)); exact (Kd.R_mono (Kd.R_far (p := ⟨gb258, 4, none⟩) (Kd.R_far (p := ⟨gb258, 3, none⟩) (Kd.R_far (p := ⟨gb258, 2, none⟩) (Kd.R_far (p := ⟨gb258, 1, none⟩) (Kd.R_far (p := ⟨gb258, 0, none⟩) (Kd.R_types HO239.out BK258.out (by decide)) (fun _ hk => hk.2) (.int .i64 t251)) (fun _ hk => hk.2) (.int .i64 t252)) (fun _ hk => hk.2) (.slice Ao30 t253.length co30)) (fun _ hk => hk.2) (.int .i64 t256)) (fun _ hk => hk.2) (.int .i64 t257)) (fun _ h_ => h_.1))))) (Kd.R_lt (by (with_reducible repeat (first | apply Kd.R_alloc | apply Kd.R_drewN | apply Kd.R_drew)); exact (Kd.R_mono (Kd.R_far (p := ⟨gb258, 4, none⟩) (Kd.R_far (p := ⟨gb258, 3, none⟩) (Kd.R_far (p := ⟨gb258, 2, none⟩) (Kd.R_far (p := ⟨gb258, 1, none⟩) (Kd.R_far (p := ⟨gb258, 0, none⟩) (Kd.R_types HO246.out BK258.out (by decide)) (fun _ hk => hk.2) (.int .i64 t251)) (fun _ hk => hk.2) (.int .i64 t252)) (fun _ hk => hk.2) (.slice Ao30 t253.length co30)) (fun _ hk => hk.2) (.int .i64 t256)) (fun _ hk => hk.2) (.int .i64 t257)) (fun _ h_ => h_.1))))) (Kd.R_lt (by (with_reducible repeat (first | apply Kd.R_alloc | apply Kd.R_drewN | apply Kd.R_drew)); exact (Kd.R_mono (Kd.R_far (p := ⟨gb258, 4, none⟩) (Kd.R_far (p := ⟨gb258, 3, none⟩) (Kd.R_far (p := ⟨gb258, 2, none⟩) (Kd.R_far (p := ⟨gb258, 1, none⟩) (Kd.R_far (p := ⟨gb258, 0, none⟩) (Kd.R_types HO255.out BK258.out (by decide)) (fun _ hk => hk.2) (.int .i64 t251)) (fun _ hk => hk.2) (.int .i64 t252)) (fun _ hk => hk.2) (.slice Ao30 t253.length co30)) (fun _ hk => hk.2) (.int .i64 t256)) (fun _ hk => hk.2) (.int .i64 t257)) (fun _ h_ => h_.1))))) (below_size (zs3 HB GE233 GE250 GE258))); have n4_ := Aside0.mk (blk_below (g := gb233) (o := .cells #[.int .i64 a0_0, .int .i64 a0_1, .slice A0_2 l0_2.length c0_2, .int .i64 a0_3, .int .i64 a0_4] 26 (0, 0)) (by (with_reducible repeat (first | refine blk_drewN ?_ _ | refine blk_drew ?_ | refine blk_alloc ?_ _)); refine blk_far ?_ NB233_258.out _; (with_reducible repeat (first | refine blk_drewN ?_ _ | refine blk_drew ?_ | refine blk_alloc ?_ _)); refine blk_far ?_ NB233_258.out _; (with_reducible repeat (first | refine blk_drewN ?_ _ | refine blk_drew ?_ | refine blk_alloc ?_ _)); refine blk_far ?_ NB233_258.out _; (with_reducible repeat (first | refine blk_drewN ?_ _ | refine blk_drew ?_ | refine blk_alloc ?_ _)); refine blk_far ?_ NB233_258.out _; (with_reducible repeat (first | refine blk_drewN ?_ _ | refine blk_drew ?_ | refine blk_alloc ?_ _)); refine blk_far ?_ NB233_258.out _; (with_reducible repeat (first | refine blk_drewN ?_ _ | refine blk_drew ?_ | refine blk_alloc ?_ _)); exact BK233.out) hb); have n5_ := Aside0.mk (blk_below (g := gb250) (o := .cells #[.int .i64 t242, .int .i64 t243, .slice Ao23 t244.length co23, .int .i64 t247, .int .i64 t248] 34 (0, 0)) (by (with_reducible repeat (first | refine blk_drewN ?_ _ | refine blk_drew ?_ | refine blk_alloc ?_ _)); refine blk_far ?_ NB250_258.out _; (with_reducible repeat (first | refine blk_drewN ?_ _ | refine blk_drew ?_ | refine blk_alloc ?_ _)); refine blk_far ?_ NB250_258.out _; (with_reducible repeat (first | refine blk_drewN ?_ _ | refine blk_drew ?_ | refine blk_alloc ?_ _)); refine blk_far ?_ NB250_258.out _; (with_reducible repeat (first | refine blk_drewN ?_ _ | refine blk_drew ?_ | refine blk_alloc ?_ _)); refine blk_far ?_ NB250_258.out _; (with_reducible repeat (first | refine blk_drewN ?_ _ | refine blk_drew ?_ | refine blk_alloc ?_ _)); refine blk_far ?_ NB250_258.out _; (with_reducible repeat (first | refine blk_drewN ?_ _ | refine blk_drew ?_ | refine blk_alloc ?_ _)); exact BK250.out) hb); have n6_ := Aside0.mk (blk_below (g := gb258) (o := .cells #[.int .i64 t251, .int .i64 t252, .slice Ao30 t253.length co30, .int .i64 t256, .int .i64 t257] 34 (0, 0)) (by (with_reducible repeat (first | refine blk_drewN ?_ _ | refine blk_drew ?_ | refine blk_alloc ?_ _)); refine blk_put (cs := #[.int .i64 t251, .int .i64 t252, .slice Ao30 t253.length co30, .int .i64 t256, .int .i64 0]) ?_ 4 _ rfl; (with_reducible repeat (first | refine blk_drewN ?_ _ | refine blk_drew ?_ | refine blk_alloc ?_ _)); refine blk_put (cs := #[.int .i64 t251, .int .i64 t252, .slice Ao30 t253.length co30, .int .i64 0, .int .i64 0]) ?_ 3 _ rfl; (with_reducible repeat (first | refine blk_drewN ?_ _ | refine blk_drew ?_ | refine blk_alloc ?_ _)); refine blk_put (cs := #[.int .i64 t251, .int .i64 t252, .slice none 0 0, .int .i64 0, .int .i64 0]) ?_ 2 _ rfl; (with_reducible repeat (first | refine blk_drewN ?_ _ | refine blk_drew ?_ | refine blk_alloc ?_ _)); refine blk_put (cs := #[.int .i64 t251, .int .i64 0, .slice none 0 0, .int .i64 0, .int .i64 0]) ?_ 1 _ rfl; (with_reducible repeat (first | refine blk_drewN ?_ _ | refine blk_drew ?_ | refine blk_alloc ?_ _)); refine blk_put (cs := #[.int .i64 0, .int .i64 0, .slice none 0 0, .int .i64 0, .int .i64 0]) ?_ 0 _ rfl; (with_reducible repeat (first | refine blk_drewN ?_ _ | refine blk_drew ?_ | refine blk_alloc ?_ _)); exact BK258.out) hb); have n7_ := Aside0.mk (below_step (zs3 HB GE233 GE250 GE258) hb); clear HO239; clear HO246; clear HO255; clear BK233; clear BK250; clear BK258; clear HB; have HO239 := n0_; have HO246 := n1_; have HO255 := n2_; have HO263 := n3_; have BK233 := n4_; have BK250 := n5_; have BK258 := n6_; have HB := n7_; clear n0_ n1_ n2_ n3_ n4_ n5_ n6_ n7_; (try clear hb); (try clear hb2); (try clear hk); (try clear hi); (try clear ho0)) | ((with_reducible refine gate_dst (N := 9) rfl ?_); refine box_event (by rfl) (N := 9) (by rfl) (cs := #[.int .i64 0, .int .i64 0, .slice none 0 0, .int .i64 0, .int .i64 0]) (t := 34) zg ?_; intro gb267 hg w32 hbox hb; have n0_ := Aside0.mk (Kd.R_below (zr HO239) hb); have n1_ := Aside0.mk (Kd.R_below (zr HO246) hb); have n2_ := Aside0.mk (Kd.R_below (zr HO255) hb); have n3_ := Aside0.mk (Kd.R_below (zr HO263) hb); have n4_ := zb BK233 hb; have n5_ := zb BK250 hb; have n6_ := zb BK258 hb; have n7_ := Aside0.mk (below_step (zs3 HB GE233 GE250 GE258) hb); have n8_ := Aside0.mk (hbox); have n9_ := Aside0.mk ((by rw [hg]; exact (below_size (zs3 HB GE233 GE250 GE258)) : w.heap.size ≤ gb267)); have n10_ := Aside0.mk ((by rw [hg]; exact (below_size (zs3 HB GE233 GE250 GE258)) : w.heap.size ≤ gb267)); have n11_ := Aside0.mk ((by rw [hg]; exact Nat.ne_of_lt (blk_lt (g := gb233) (o := .cells #[.int .i64 a0_0, .int .i64 a0_1, .slice A0_2 l0_2.length c0_2, .int .i64 a0_3, .int .i64 a0_4] 26 (0, 0)) (zh BK233)) : gb233 ≠ gb267)); have n12_ := Aside0.mk ((by rw [hg]; exact Nat.ne_of_gt (blk_lt (g := gb233) (o := .cells #[.int .i64 a0_0, .int .i64 a0_1, .slice A0_2 l0_2.length c0_2, .int .i64 a0_3, .int .i64 a0_4] 26 (0, 0)) (zh BK233)) : gb267 ≠ gb233)); have n13_ := Aside0.mk ((by rw [hg]; exact Nat.ne_of_lt (blk_lt (g := gb250) (o := .cells #[.int .i64 t242, .int .i64 t243, .slice Ao23 t244.length co23, .int .i64 t247, .int .i64 t248] 34 (0, 0)) (zh BK250)) : gb250 ≠ gb267)); have n14_ := Aside0.mk ((by rw [hg]; exact Nat.ne_of_gt (blk_lt (g := gb250) (o := .cells #[.int .i64 t242, .int .i64 t243, .slice Ao23 t244.length co23, .int .i64 t247, .int .i64 t248] 34 (0, 0)) (zh BK250)) : gb267 ≠ gb250)); have n15_ := Aside0.mk ((by rw [hg]; exact Nat.ne_of_lt (blk_lt (g := gb258) (o := .cells #[.int .i64 t251, .int .i64 t252, .slice Ao30 t253.length co30, .int .i64 t256, .int .i64 t257] 34 (0, 0)) (zh BK258)) : gb258 ≠ gb267)); have n16_ := Aside0.mk ((by rw [hg]; exact Nat.ne_of_gt (blk_lt (g := gb258) (o := .cells #[.int .i64 t251, .int .i64 t252, .slice Ao30 t253.length co30, .int .i64 t256, .int .i64 t257] 34 (0, 0)) (zh BK258)) : gb267 ≠ gb258)); clear HO239; clear HO246; clear HO255; clear HO263; clear BK233; clear BK250; clear BK258; clear HB; have HO239 := n0_; have HO246 := n1_; have HO255 := n2_; have HO263 := n3_; have BK233 := n4_; have BK250 := n5_; have BK258 := n6_; have HB := n7_; have BK267 := n8_; have GW267 := n9_; have GE267 := n10_; have NB233_267 := n11_; have NB267_233 := n12_; have NB250_267 := n13_; have NB267_250 := n14_; have NB258_267 := n15_; have NB267_258 := n16_; clear n0_ n1_ n2_ n3_ n4_ n5_ n6_ n7_ n8_ n9_ n10_ n11_ n12_ n13_ n14_ n15_ n16_; clear hb hbox hg; have hnb33 := NB267_233.out; have hnc33 := NB233_267.out; have hnb34 := NB267_250.out; have hnc34 := NB250_267.out; have hnb35 := NB267_258.out; have hnc35 := NB258_267.out; obtain ⟨hcz36_0, hcz36_1, hcz36_2, hcz36_3, hcz36_4⟩ := zd5 BK267; obtain ⟨hfz36_0, hfz36_1, hfz36_2, hfz36_3, hfz36_4⟩ := zn5 BK267; obtain ⟨Ao37, co37, eo37⟩ := Kd.R_slice HO263.out; subst eo37))
 (try simp only [Act.put, List.setIfInBounds_toArray, List.set_cons_zero, List.set_cons_succ])
 go_cut [44] (fun v44 wc => ∃ (kq : Nat) (x44_11 : Bool), v44 = .bool x44_11 ∧ Aside0 (laws_FnExactFlyShift.j0 kq a1 t249 t266 x44_11 a0_0 a0_1 l0_2 a0_3 a0_4 t242 t243 t244 t247 t248 t251 t252 t253 t256 t257 t259 t260 t261 t264 t265 = some r) ∧ Aside0 (kq ≤ k) ∧ Aside0 (Kd.R k88 88 wc w.heap.size (fun k_ => some k_ ≠ ((.slice Ao30 t253.length co30) : Value).ownBlock ∧ some k_ ≠ ((.slice Ao37 t261.length co37) : Value).ownBlock) (.slice Ao23 t244.length co23) t244) ∧ Aside0 (Kd.R k88 88 wc w.heap.size (fun k_ => some k_ ≠ ((.slice Ao23 t244.length co23) : Value).ownBlock ∧ some k_ ≠ ((.slice Ao37 t261.length co37) : Value).ownBlock) (.slice Ao30 t253.length co30) t253) ∧ Aside0 (Kd.R k88 88 wc w.heap.size (fun k_ => some k_ ≠ ((.slice Ao23 t244.length co23) : Value).ownBlock ∧ some k_ ≠ ((.slice Ao30 t253.length co30) : Value).ownBlock) (.slice Ao37 t261.length co37) t261) ∧ Aside0 (wc.heap[gb233]? = some (.cells #[.int .i64 a0_0, .int .i64 a0_1, (.slice A0_2 l0_2.length c0_2), .int .i64 a0_3, .int .i64 a0_4] 26 (0, 0))) ∧ Aside0 (wc.heap[gb250]? = some (.cells #[.int .i64 t242, .int .i64 t243, (.slice Ao23 t244.length co23), .int .i64 t247, .int .i64 t248] 34 (0, 0))) ∧ Aside0 (wc.heap[gb258]? = some (.cells #[.int .i64 t251, .int .i64 t252, (.slice Ao30 t253.length co30), .int .i64 t256, .int .i64 t257] 34 (0, 0))) ∧ Aside0 (wc.heap[gb267]? = some (.cells #[.int .i64 t259, .int .i64 t260, (.slice Ao37 t261.length co37), .int .i64 t264, .int .i64 t265] 34 (0, 0))) ∧ Aside0 (Below w.heap.size w wc))
 case first =>
  have H := HC12.out
  clear HC12
  replace H := Option.bind_eq_some_iff.mp H
  obtain ⟨t268, A380, H⟩ := H
  replace H : (if t268 = true then (laws_FnExactFlyShift.j0 k a1 t249 t266 (t266 != t249) a0_0 a0_1 l0_2 a0_3 a0_4 t242 t243 t244 t247 t248 t251 t252 t253 t256 t257 t259 t260 t261 t264 t265) else (laws_FnExactFlyShift.j0 k a1 t249 t266 true a0_0 a0_1 l0_2 a0_3 a0_4 t242 t243 t244 t247 t248 t251 t252 t253 t256 t257 t259 t260 t261 t264 t265)) = some r := H
  have A38 := Aside0.mk A380
  clear A380
  by_cases c39 : t268 = true
  ·subst c39
   have H1 : (laws_FnExactFlyShift.j0 k a1 t249 t266 (t266 != t249) a0_0 a0_1 l0_2 a0_3 a0_4 t242 t243 t244 t247 t248 t251 t252 t253 t256 t257 t259 t260 t261 t264 t265) = some r := by rw [if_pos rfl] at H; exact H
   clear H
   have H := H1
   clear H1
   have H' := Aside0.mk H
   clear H
   have hnb40 := NB267_233.out
   have hnc40 := NB233_267.out
   have hnb41 := NB267_250.out
   have hnc41 := NB250_267.out
   have hnb42 := NB267_258.out
   have hnc42 := NB258_267.out
   obtain ⟨hcz43_0, hcz43_1, hcz43_2, hcz43_3, hcz43_4⟩ := zd5 BK267
   obtain ⟨hfz43_0, hfz43_1, hfz43_2, hfz43_3, hfz43_4⟩ := zn5 BK267
   have hnb44 := NB250_233.out
   have hnc44 := NB233_250.out
   have hnb45 := NB250_258.out
   have hnc45 := NB258_250.out
   obtain ⟨hcz46_0, hcz46_1, hcz46_2, hcz46_3, hcz46_4⟩ := zd5 BK250
   obtain ⟨hfz46_0, hfz46_1, hfz46_2, hfz46_3, hfz46_4⟩ := zn5 BK250
   go_wp2_with (first | ((with_reducible refine gate_callee (f := 21) rfl ?_); refine goesL_ (some 38) rfl rfl Try.func21 (by kernel_rfl) rfl #[.agg #[.int .i64 t259, .int .i64 t260, .slice Ao37 t261.length co37, .int .i64 t264, .int .i64 t265], .agg #[.int .i64 t242, .int .i64 t243, .slice Ao23 t244.length co23, .int .i64 t247, .int .i64 t248]] rfl zl ?_; (with_reducible refine (laws_eqFlyPath.calls k t259 t260 _ _ t261 t264 t265 t242 t243 _ _ t244 t247 t248 true _ ?side1 ?side2 ?side3 ?side4 A38.out).mono ?_); (case side1 => refine (Kd.R_reads' (e := 88) (base := w.heap.size) (ok := fun k_ => (((True ∧ some k_ ≠ (.slice Ao18 t237.length co18 : Value).ownBlock) ∧ some k_ ≠ (.slice Ao23 t244.length co23 : Value).ownBlock) ∧ some k_ ≠ (.slice Ao30 t253.length co30 : Value).ownBlock)) (n := t261.length) (c := co37) ?_).2.2; exact (by (with_reducible repeat (first | apply Kd.R_alloc | apply Kd.R_drewN | apply Kd.R_drew)); exact (Kd.R_mono (Kd.R_far (p := ⟨gb267, 4, none⟩) (Kd.R_far (p := ⟨gb267, 3, none⟩) (Kd.R_far (p := ⟨gb267, 2, none⟩) (Kd.R_far (p := ⟨gb267, 1, none⟩) (Kd.R_far (p := ⟨gb267, 0, none⟩) (Kd.R_types HO263.out BK267.out (by decide)) (fun _ hk => hk.2) (.int .i64 t259)) (fun _ hk => hk.2) (.int .i64 t260)) (fun _ hk => hk.2) (.slice Ao37 t261.length co37)) (fun _ hk => hk.2) (.int .i64 t264)) (fun _ hk => hk.2) (.int .i64 t265)) (fun _ h_ => h_.1)))); (case side2 => exact (Kd.R_reads' HO263.out).2.1); (case side3 => refine (Kd.R_reads' (e := 88) (base := w.heap.size) (ok := fun k_ => (((True ∧ some k_ ≠ (.slice Ao18 t237.length co18 : Value).ownBlock) ∧ some k_ ≠ (.slice Ao30 t253.length co30 : Value).ownBlock) ∧ some k_ ≠ (.slice Ao37 t261.length co37 : Value).ownBlock)) (n := t244.length) (c := co23) ?_).2.2; exact (by (with_reducible repeat (first | apply Kd.R_alloc | apply Kd.R_drewN | apply Kd.R_drew)); exact (Kd.R_mono (Kd.R_far (p := ⟨gb267, 4, none⟩) (Kd.R_far (p := ⟨gb267, 3, none⟩) (Kd.R_far (p := ⟨gb267, 2, none⟩) (Kd.R_far (p := ⟨gb267, 1, none⟩) (Kd.R_far (p := ⟨gb267, 0, none⟩) (Kd.R_types HO246.out BK267.out (by decide)) (fun _ hk => hk.2) (.int .i64 t259)) (fun _ hk => hk.2) (.int .i64 t260)) (fun _ hk => hk.2) (.slice Ao37 t261.length co37)) (fun _ hk => hk.2) (.int .i64 t264)) (fun _ hk => hk.2) (.int .i64 t265)) (fun _ h_ => h_.1)))); (case side4 => exact (Kd.R_reads' HO246.out).2.1); rintro e w47 ⟨rfl, hb⟩; refine ⟨_, rfl, ?_⟩; have n0_ := Aside0.mk (Kd.R_below (by (with_reducible repeat (first | apply Kd.R_alloc | apply Kd.R_drewN | apply Kd.R_drew)); exact (Kd.R_mono (Kd.R_far (p := ⟨gb267, 4, none⟩) (Kd.R_far (p := ⟨gb267, 3, none⟩) (Kd.R_far (p := ⟨gb267, 2, none⟩) (Kd.R_far (p := ⟨gb267, 1, none⟩) (Kd.R_far (p := ⟨gb267, 0, none⟩) (Kd.R_types HO239.out BK267.out (by decide)) (fun _ hk => hk.2) (.int .i64 t259)) (fun _ hk => hk.2) (.int .i64 t260)) (fun _ hk => hk.2) (.slice Ao37 t261.length co37)) (fun _ hk => hk.2) (.int .i64 t264)) (fun _ hk => hk.2) (.int .i64 t265)) (fun _ h_ => h_.1))) hb); have n1_ := Aside0.mk (Kd.R_below (by (with_reducible repeat (first | apply Kd.R_alloc | apply Kd.R_drewN | apply Kd.R_drew)); exact (Kd.R_mono (Kd.R_far (p := ⟨gb267, 4, none⟩) (Kd.R_far (p := ⟨gb267, 3, none⟩) (Kd.R_far (p := ⟨gb267, 2, none⟩) (Kd.R_far (p := ⟨gb267, 1, none⟩) (Kd.R_far (p := ⟨gb267, 0, none⟩) (Kd.R_types HO246.out BK267.out (by decide)) (fun _ hk => hk.2) (.int .i64 t259)) (fun _ hk => hk.2) (.int .i64 t260)) (fun _ hk => hk.2) (.slice Ao37 t261.length co37)) (fun _ hk => hk.2) (.int .i64 t264)) (fun _ hk => hk.2) (.int .i64 t265)) (fun _ h_ => h_.1))) hb); have n2_ := Aside0.mk (Kd.R_below (by (with_reducible repeat (first | apply Kd.R_alloc | apply Kd.R_drewN | apply Kd.R_drew)); exact (Kd.R_mono (Kd.R_far (p := ⟨gb267, 4, none⟩) (Kd.R_far (p := ⟨gb267, 3, none⟩) (Kd.R_far (p := ⟨gb267, 2, none⟩) (Kd.R_far (p := ⟨gb267, 1, none⟩) (Kd.R_far (p := ⟨gb267, 0, none⟩) (Kd.R_types HO255.out BK267.out (by decide)) (fun _ hk => hk.2) (.int .i64 t259)) (fun _ hk => hk.2) (.int .i64 t260)) (fun _ hk => hk.2) (.slice Ao37 t261.length co37)) (fun _ hk => hk.2) (.int .i64 t264)) (fun _ hk => hk.2) (.int .i64 t265)) (fun _ h_ => h_.1))) hb); have n3_ := Aside0.mk (Kd.R_below (by (with_reducible repeat (first | apply Kd.R_alloc | apply Kd.R_drewN | apply Kd.R_drew)); exact (Kd.R_mono (Kd.R_far (p := ⟨gb267, 4, none⟩) (Kd.R_far (p := ⟨gb267, 3, none⟩) (Kd.R_far (p := ⟨gb267, 2, none⟩) (Kd.R_far (p := ⟨gb267, 1, none⟩) (Kd.R_far (p := ⟨gb267, 0, none⟩) (Kd.R_types HO263.out BK267.out (by decide)) (fun _ hk => hk.2) (.int .i64 t259)) (fun _ hk => hk.2) (.int .i64 t260)) (fun _ hk => hk.2) (.slice Ao37 t261.length co37)) (fun _ hk => hk.2) (.int .i64 t264)) (fun _ hk => hk.2) (.int .i64 t265)) (fun _ h_ => h_.1))) hb); have n4_ := Aside0.mk (blk_below (g := gb233) (o := .cells #[.int .i64 a0_0, .int .i64 a0_1, .slice A0_2 l0_2.length c0_2, .int .i64 a0_3, .int .i64 a0_4] 26 (0, 0)) (by (with_reducible repeat (first | refine blk_drewN ?_ _ | refine blk_drew ?_ | refine blk_alloc ?_ _)); refine blk_far ?_ NB233_267.out _; (with_reducible repeat (first | refine blk_drewN ?_ _ | refine blk_drew ?_ | refine blk_alloc ?_ _)); refine blk_far ?_ NB233_267.out _; (with_reducible repeat (first | refine blk_drewN ?_ _ | refine blk_drew ?_ | refine blk_alloc ?_ _)); refine blk_far ?_ NB233_267.out _; (with_reducible repeat (first | refine blk_drewN ?_ _ | refine blk_drew ?_ | refine blk_alloc ?_ _)); refine blk_far ?_ NB233_267.out _; (with_reducible repeat (first | refine blk_drewN ?_ _ | refine blk_drew ?_ | refine blk_alloc ?_ _)); refine blk_far ?_ NB233_267.out _; (with_reducible repeat (first | refine blk_drewN ?_ _ | refine blk_drew ?_ | refine blk_alloc ?_ _)); exact BK233.out) hb); have n5_ := Aside0.mk (blk_below (g := gb250) (o := .cells #[.int .i64 t242, .int .i64 t243, .slice Ao23 t244.length co23, .int .i64 t247, .int .i64 t248] 34 (0, 0)) (by (with_reducible repeat (first | refine blk_drewN ?_ _ | refine blk_drew ?_ | refine blk_alloc ?_ _)); refine blk_far ?_ NB250_267.out _; (with_reducible repeat (first | refine blk_drewN ?_ _ | refine blk_drew ?_ | refine blk_alloc ?_ _)); refine blk_far ?_ NB250_267.out _; (with_reducible repeat (first | refine blk_drewN ?_ _ | refine blk_drew ?_ | refine blk_alloc ?_ _)); refine blk_far ?_ NB250_267.out _; (with_reducible repeat (first | refine blk_drewN ?_ _ | refine blk_drew ?_ | refine blk_alloc ?_ _)); refine blk_far ?_ NB250_267.out _; (with_reducible repeat (first | refine blk_drewN ?_ _ | refine blk_drew ?_ | refine blk_alloc ?_ _)); refine blk_far ?_ NB250_267.out _; (with_reducible repeat (first | refine blk_drewN ?_ _ | refine blk_drew ?_ | refine blk_alloc ?_ _)); exact BK250.out) hb); have n6_ := Aside0.mk (blk_below (g := gb258) (o := .cells #[.int .i64 t251, .int .i64 t252, .slice Ao30 t253.length co30, .int .i64 t256, .int .i64 t257] 34 (0, 0)) (by (with_reducible repeat (first | refine blk_drewN ?_ _ | refine blk_drew ?_ | refine blk_alloc ?_ _)); refine blk_far ?_ NB258_267.out _; (with_reducible repeat (first | refine blk_drewN ?_ _ | refine blk_drew ?_ | refine blk_alloc ?_ _)); refine blk_far ?_ NB258_267.out _; (with_reducible repeat (first | refine blk_drewN ?_ _ | refine blk_drew ?_ | refine blk_alloc ?_ _)); refine blk_far ?_ NB258_267.out _; (with_reducible repeat (first | refine blk_drewN ?_ _ | refine blk_drew ?_ | refine blk_alloc ?_ _)); refine blk_far ?_ NB258_267.out _; (with_reducible repeat (first | refine blk_drewN ?_ _ | refine blk_drew ?_ | refine blk_alloc ?_ _)); refine blk_far ?_ NB258_267.out _; (with_reducible repeat (first | refine blk_drewN ?_ _ | refine blk_drew ?_ | refine blk_alloc ?_ _)); exact BK258.out) hb); have n7_ := Aside0.mk (blk_below (g := gb267) (o := .cells #[.int .i64 t259, .int .i64 t260, .slice Ao37 t261.length co37, .int .i64 t264, .int .i64 t265] 34 (0, 0)) (by (with_reducible repeat (first | refine blk_drewN ?_ _ | refine blk_drew ?_ | refine blk_alloc ?_ _)); refine blk_put (cs := #[.int .i64 t259, .int .i64 t260, .slice Ao37 t261.length co37, .int .i64 t264, .int .i64 0]) ?_ 4 _ rfl; (with_reducible repeat (first | refine blk_drewN ?_ _ | refine blk_drew ?_ | refine blk_alloc ?_ _)); refine blk_put (cs := #[.int .i64 t259, .int .i64 t260, .slice Ao37 t261.length co37, .int .i64 0, .int .i64 0]) ?_ 3 _ rfl; (with_reducible repeat (first | refine blk_drewN ?_ _ | refine blk_drew ?_ | refine blk_alloc ?_ _)); refine blk_put (cs := #[.int .i64 t259, .int .i64 t260, .slice none 0 0, .int .i64 0, .int .i64 0]) ?_ 2 _ rfl; (with_reducible repeat (first | refine blk_drewN ?_ _ | refine blk_drew ?_ | refine blk_alloc ?_ _)); refine blk_put (cs := #[.int .i64 t259, .int .i64 0, .slice none 0 0, .int .i64 0, .int .i64 0]) ?_ 1 _ rfl; (with_reducible repeat (first | refine blk_drewN ?_ _ | refine blk_drew ?_ | refine blk_alloc ?_ _)); refine blk_put (cs := #[.int .i64 0, .int .i64 0, .slice none 0 0, .int .i64 0, .int .i64 0]) ?_ 0 _ rfl; (with_reducible repeat (first | refine blk_drewN ?_ _ | refine blk_drew ?_ | refine blk_alloc ?_ _)); exact BK267.out) hb); have n8_ := Aside0.mk (below_step (by repeat (first | (with_reducible first | exact HB.out | apply below_alloc | apply pw_below_drewN | apply below_drew1 | refine below_set ?_ GE233.out | refine below_set ?_ GE250.out | refine below_set ?_ GE258.out | refine below_set ?_ GE267.out) | exact HB.out)) hb); clear HO239 HO246 HO255 HO263 BK233 BK250 BK258 BK267 HB; revert n0_ n1_ n2_ n3_ n4_ n5_ n6_ n7_ n8_; intro HO239 HO246 HO255 HO263 BK233 BK250 BK258 BK267 HB; (try clear hb); (try clear hb2); (try clear hk); (try clear hi)))
   go_meet
   case rel => exact ⟨_, ((t266 != t249)), zi, H', ⟨by first | omega | exact Nat.le_refl _⟩, ⟨by (with_reducible repeat (first | apply Kd.R_alloc | apply Kd.R_drewN | apply Kd.R_drew)); exact Kd.R_mono HO246.out (fun _ hk => ⟨hk.1.2, hk.2⟩)⟩, ⟨by (with_reducible repeat (first | apply Kd.R_alloc | apply Kd.R_drewN | apply Kd.R_drew)); exact Kd.R_mono HO255.out (fun _ hk => ⟨hk.1.2, hk.2⟩)⟩, ⟨by (with_reducible repeat (first | apply Kd.R_alloc | apply Kd.R_drewN | apply Kd.R_drew)); exact Kd.R_mono HO263.out (fun _ hk => ⟨hk.1.2, hk.2⟩)⟩, ⟨zh BK233⟩, ⟨zh BK250⟩, ⟨zh BK258⟩, ⟨zh BK267⟩, ⟨by repeat (first | (with_reducible first | exact HB.out | apply below_alloc | apply pw_below_drewN | apply below_drew1 | refine below_set ?_ GE233.out | refine below_set ?_ GE250.out | refine below_set ?_ GE258.out | refine below_set ?_ GE267.out) | exact HB.out)⟩⟩
  replace c39 := Bool.eq_false_iff.mpr c39
  subst c39
  have H1 : (laws_FnExactFlyShift.j0 k a1 t249 t266 true a0_0 a0_1 l0_2 a0_3 a0_4 t242 t243 t244 t247 t248 t251 t252 t253 t256 t257 t259 t260 t261 t264 t265) = some r := by rw [if_neg (show ¬ (false = true) by decide)] at H; exact H
  clear H
  have H := H1
  clear H1
  have H' := Aside0.mk H
  clear H
  have hnb48 := NB267_233.out
  have hnc48 := NB233_267.out
  have hnb49 := NB267_250.out
  have hnc49 := NB250_267.out
  have hnb50 := NB267_258.out
  have hnc50 := NB258_267.out
  obtain ⟨hcz51_0, hcz51_1, hcz51_2, hcz51_3, hcz51_4⟩ := zd5 BK267
  obtain ⟨hfz51_0, hfz51_1, hfz51_2, hfz51_3, hfz51_4⟩ := zn5 BK267
  have hnb52 := NB250_233.out
  have hnc52 := NB233_250.out
  have hnb53 := NB250_258.out
  have hnc53 := NB258_250.out
  obtain ⟨hcz54_0, hcz54_1, hcz54_2, hcz54_3, hcz54_4⟩ := zd5 BK250
  obtain ⟨hfz54_0, hfz54_1, hfz54_2, hfz54_3, hfz54_4⟩ := zn5 BK250
  go_wp2_with (first | ((with_reducible refine gate_callee (f := 21) rfl ?_); refine goesL_ (some 38) rfl rfl Try.func21 (by kernel_rfl) rfl #[.agg #[.int .i64 t259, .int .i64 t260, .slice Ao37 t261.length co37, .int .i64 t264, .int .i64 t265], .agg #[.int .i64 t242, .int .i64 t243, .slice Ao23 t244.length co23, .int .i64 t247, .int .i64 t248]] rfl zl ?_; (with_reducible refine (laws_eqFlyPath.calls k t259 t260 _ _ t261 t264 t265 t242 t243 _ _ t244 t247 t248 false _ ?side1 ?side2 ?side3 ?side4 A38.out).mono ?_); (case side1 => refine (Kd.R_reads' (e := 88) (base := w.heap.size) (ok := fun k_ => (((True ∧ some k_ ≠ (.slice Ao18 t237.length co18 : Value).ownBlock) ∧ some k_ ≠ (.slice Ao23 t244.length co23 : Value).ownBlock) ∧ some k_ ≠ (.slice Ao30 t253.length co30 : Value).ownBlock)) (n := t261.length) (c := co37) ?_).2.2; exact (by (with_reducible repeat (first | apply Kd.R_alloc | apply Kd.R_drewN | apply Kd.R_drew)); exact (Kd.R_mono (Kd.R_far (p := ⟨gb267, 4, none⟩) (Kd.R_far (p := ⟨gb267, 3, none⟩) (Kd.R_far (p := ⟨gb267, 2, none⟩) (Kd.R_far (p := ⟨gb267, 1, none⟩) (Kd.R_far (p := ⟨gb267, 0, none⟩) (Kd.R_types HO263.out BK267.out (by decide)) (fun _ hk => hk.2) (.int .i64 t259)) (fun _ hk => hk.2) (.int .i64 t260)) (fun _ hk => hk.2) (.slice Ao37 t261.length co37)) (fun _ hk => hk.2) (.int .i64 t264)) (fun _ hk => hk.2) (.int .i64 t265)) (fun _ h_ => h_.1)))); (case side2 => exact (Kd.R_reads' HO263.out).2.1); (case side3 => refine (Kd.R_reads' (e := 88) (base := w.heap.size) (ok := fun k_ => (((True ∧ some k_ ≠ (.slice Ao18 t237.length co18 : Value).ownBlock) ∧ some k_ ≠ (.slice Ao30 t253.length co30 : Value).ownBlock) ∧ some k_ ≠ (.slice Ao37 t261.length co37 : Value).ownBlock)) (n := t244.length) (c := co23) ?_).2.2; exact (by (with_reducible repeat (first | apply Kd.R_alloc | apply Kd.R_drewN | apply Kd.R_drew)); exact (Kd.R_mono (Kd.R_far (p := ⟨gb267, 4, none⟩) (Kd.R_far (p := ⟨gb267, 3, none⟩) (Kd.R_far (p := ⟨gb267, 2, none⟩) (Kd.R_far (p := ⟨gb267, 1, none⟩) (Kd.R_far (p := ⟨gb267, 0, none⟩) (Kd.R_types HO246.out BK267.out (by decide)) (fun _ hk => hk.2) (.int .i64 t259)) (fun _ hk => hk.2) (.int .i64 t260)) (fun _ hk => hk.2) (.slice Ao37 t261.length co37)) (fun _ hk => hk.2) (.int .i64 t264)) (fun _ hk => hk.2) (.int .i64 t265)) (fun _ h_ => h_.1)))); (case side4 => exact (Kd.R_reads' HO246.out).2.1); rintro e w55 ⟨rfl, hb⟩; refine ⟨_, rfl, ?_⟩; have n0_ := Aside0.mk (Kd.R_below (by (with_reducible repeat (first | apply Kd.R_alloc | apply Kd.R_drewN | apply Kd.R_drew)); exact (Kd.R_mono (Kd.R_far (p := ⟨gb267, 4, none⟩) (Kd.R_far (p := ⟨gb267, 3, none⟩) (Kd.R_far (p := ⟨gb267, 2, none⟩) (Kd.R_far (p := ⟨gb267, 1, none⟩) (Kd.R_far (p := ⟨gb267, 0, none⟩) (Kd.R_types HO239.out BK267.out (by decide)) (fun _ hk => hk.2) (.int .i64 t259)) (fun _ hk => hk.2) (.int .i64 t260)) (fun _ hk => hk.2) (.slice Ao37 t261.length co37)) (fun _ hk => hk.2) (.int .i64 t264)) (fun _ hk => hk.2) (.int .i64 t265)) (fun _ h_ => h_.1))) hb); have n1_ := Aside0.mk (Kd.R_below (by (with_reducible repeat (first | apply Kd.R_alloc | apply Kd.R_drewN | apply Kd.R_drew)); exact (Kd.R_mono (Kd.R_far (p := ⟨gb267, 4, none⟩) (Kd.R_far (p := ⟨gb267, 3, none⟩) (Kd.R_far (p := ⟨gb267, 2, none⟩) (Kd.R_far (p := ⟨gb267, 1, none⟩) (Kd.R_far (p := ⟨gb267, 0, none⟩) (Kd.R_types HO246.out BK267.out (by decide)) (fun _ hk => hk.2) (.int .i64 t259)) (fun _ hk => hk.2) (.int .i64 t260)) (fun _ hk => hk.2) (.slice Ao37 t261.length co37)) (fun _ hk => hk.2) (.int .i64 t264)) (fun _ hk => hk.2) (.int .i64 t265)) (fun _ h_ => h_.1))) hb); have n2_ := Aside0.mk (Kd.R_below (by (with_reducible repeat (first | apply Kd.R_alloc | apply Kd.R_drewN | apply Kd.R_drew)); exact (Kd.R_mono (Kd.R_far (p := ⟨gb267, 4, none⟩) (Kd.R_far (p := ⟨gb267, 3, none⟩) (Kd.R_far (p := ⟨gb267, 2, none⟩) (Kd.R_far (p := ⟨gb267, 1, none⟩) (Kd.R_far (p := ⟨gb267, 0, none⟩) (Kd.R_types HO255.out BK267.out (by decide)) (fun _ hk => hk.2) (.int .i64 t259)) (fun _ hk => hk.2) (.int .i64 t260)) (fun _ hk => hk.2) (.slice Ao37 t261.length co37)) (fun _ hk => hk.2) (.int .i64 t264)) (fun _ hk => hk.2) (.int .i64 t265)) (fun _ h_ => h_.1))) hb); have n3_ := Aside0.mk (Kd.R_below (by (with_reducible repeat (first | apply Kd.R_alloc | apply Kd.R_drewN | apply Kd.R_drew)); exact (Kd.R_mono (Kd.R_far (p := ⟨gb267, 4, none⟩) (Kd.R_far (p := ⟨gb267, 3, none⟩) (Kd.R_far (p := ⟨gb267, 2, none⟩) (Kd.R_far (p := ⟨gb267, 1, none⟩) (Kd.R_far (p := ⟨gb267, 0, none⟩) (Kd.R_types HO263.out BK267.out (by decide)) (fun _ hk => hk.2) (.int .i64 t259)) (fun _ hk => hk.2) (.int .i64 t260)) (fun _ hk => hk.2) (.slice Ao37 t261.length co37)) (fun _ hk => hk.2) (.int .i64 t264)) (fun _ hk => hk.2) (.int .i64 t265)) (fun _ h_ => h_.1))) hb); have n4_ := Aside0.mk (blk_below (g := gb233) (o := .cells #[.int .i64 a0_0, .int .i64 a0_1, .slice A0_2 l0_2.length c0_2, .int .i64 a0_3, .int .i64 a0_4] 26 (0, 0)) (by (with_reducible repeat (first | refine blk_drewN ?_ _ | refine blk_drew ?_ | refine blk_alloc ?_ _)); refine blk_far ?_ NB233_267.out _; (with_reducible repeat (first | refine blk_drewN ?_ _ | refine blk_drew ?_ | refine blk_alloc ?_ _)); refine blk_far ?_ NB233_267.out _; (with_reducible repeat (first | refine blk_drewN ?_ _ | refine blk_drew ?_ | refine blk_alloc ?_ _)); refine blk_far ?_ NB233_267.out _; (with_reducible repeat (first | refine blk_drewN ?_ _ | refine blk_drew ?_ | refine blk_alloc ?_ _)); refine blk_far ?_ NB233_267.out _; (with_reducible repeat (first | refine blk_drewN ?_ _ | refine blk_drew ?_ | refine blk_alloc ?_ _)); refine blk_far ?_ NB233_267.out _; (with_reducible repeat (first | refine blk_drewN ?_ _ | refine blk_drew ?_ | refine blk_alloc ?_ _)); exact BK233.out) hb); have n5_ := Aside0.mk (blk_below (g := gb250) (o := .cells #[.int .i64 t242, .int .i64 t243, .slice Ao23 t244.length co23, .int .i64 t247, .int .i64 t248] 34 (0, 0)) (by (with_reducible repeat (first | refine blk_drewN ?_ _ | refine blk_drew ?_ | refine blk_alloc ?_ _)); refine blk_far ?_ NB250_267.out _; (with_reducible repeat (first | refine blk_drewN ?_ _ | refine blk_drew ?_ | refine blk_alloc ?_ _)); refine blk_far ?_ NB250_267.out _; (with_reducible repeat (first | refine blk_drewN ?_ _ | refine blk_drew ?_ | refine blk_alloc ?_ _)); refine blk_far ?_ NB250_267.out _; (with_reducible repeat (first | refine blk_drewN ?_ _ | refine blk_drew ?_ | refine blk_alloc ?_ _)); refine blk_far ?_ NB250_267.out _; (with_reducible repeat (first | refine blk_drewN ?_ _ | refine blk_drew ?_ | refine blk_alloc ?_ _)); refine blk_far ?_ NB250_267.out _; (with_reducible repeat (first | refine blk_drewN ?_ _ | refine blk_drew ?_ | refine blk_alloc ?_ _)); exact BK250.out) hb); have n6_ := Aside0.mk (blk_below (g := gb258) (o := .cells #[.int .i64 t251, .int .i64 t252, .slice Ao30 t253.length co30, .int .i64 t256, .int .i64 t257] 34 (0, 0)) (by (with_reducible repeat (first | refine blk_drewN ?_ _ | refine blk_drew ?_ | refine blk_alloc ?_ _)); refine blk_far ?_ NB258_267.out _; (with_reducible repeat (first | refine blk_drewN ?_ _ | refine blk_drew ?_ | refine blk_alloc ?_ _)); refine blk_far ?_ NB258_267.out _; (with_reducible repeat (first | refine blk_drewN ?_ _ | refine blk_drew ?_ | refine blk_alloc ?_ _)); refine blk_far ?_ NB258_267.out _; (with_reducible repeat (first | refine blk_drewN ?_ _ | refine blk_drew ?_ | refine blk_alloc ?_ _)); refine blk_far ?_ NB258_267.out _; (with_reducible repeat (first | refine blk_drewN ?_ _ | refine blk_drew ?_ | refine blk_alloc ?_ _)); refine blk_far ?_ NB258_267.out _; (with_reducible repeat (first | refine blk_drewN ?_ _ | refine blk_drew ?_ | refine blk_alloc ?_ _)); exact BK258.out) hb); have n7_ := Aside0.mk (blk_below (g := gb267) (o := .cells #[.int .i64 t259, .int .i64 t260, .slice Ao37 t261.length co37, .int .i64 t264, .int .i64 t265] 34 (0, 0)) (by (with_reducible repeat (first | refine blk_drewN ?_ _ | refine blk_drew ?_ | refine blk_alloc ?_ _)); refine blk_put (cs := #[.int .i64 t259, .int .i64 t260, .slice Ao37 t261.length co37, .int .i64 t264, .int .i64 0]) ?_ 4 _ rfl; (with_reducible repeat (first | refine blk_drewN ?_ _ | refine blk_drew ?_ | refine blk_alloc ?_ _)); refine blk_put (cs := #[.int .i64 t259, .int .i64 t260, .slice Ao37 t261.length co37, .int .i64 0, .int .i64 0]) ?_ 3 _ rfl; (with_reducible repeat (first | refine blk_drewN ?_ _ | refine blk_drew ?_ | refine blk_alloc ?_ _)); refine blk_put (cs := #[.int .i64 t259, .int .i64 t260, .slice none 0 0, .int .i64 0, .int .i64 0]) ?_ 2 _ rfl; (with_reducible repeat (first | refine blk_drewN ?_ _ | refine blk_drew ?_ | refine blk_alloc ?_ _)); refine blk_put (cs := #[.int .i64 t259, .int .i64 0, .slice none 0 0, .int .i64 0, .int .i64 0]) ?_ 1 _ rfl; (with_reducible repeat (first | refine blk_drewN ?_ _ | refine blk_drew ?_ | refine blk_alloc ?_ _)); refine blk_put (cs := #[.int .i64 0, .int .i64 0, .slice none 0 0, .int .i64 0, .int .i64 0]) ?_ 0 _ rfl; (with_reducible repeat (first | refine blk_drewN ?_ _ | refine blk_drew ?_ | refine blk_alloc ?_ _)); exact BK267.out) hb); have n8_ := Aside0.mk (below_step (by repeat (first | (with_reducible first | exact HB.out | apply below_alloc | apply pw_below_drewN | apply below_drew1 | refine below_set ?_ GE233.out | refine below_set ?_ GE250.out | refine below_set ?_ GE258.out | refine below_set ?_ GE267.out) | exact HB.out)) hb); clear HO239 HO246 HO255 HO263 BK233 BK250 BK258 BK267 HB; revert n0_ n1_ n2_ n3_ n4_ n5_ n6_ n7_ n8_; intro HO239 HO246 HO255 HO263 BK233 BK250 BK258 BK267 HB; (try clear hb); (try clear hb2); (try clear hk); (try clear hi)))
  go_meet
  case rel => exact ⟨_, (true), zi, H', ⟨by first | omega | exact Nat.le_refl _⟩, ⟨by (with_reducible repeat (first | apply Kd.R_alloc | apply Kd.R_drewN | apply Kd.R_drew)); exact Kd.R_mono HO246.out (fun _ hk => ⟨hk.1.2, hk.2⟩)⟩, ⟨by (with_reducible repeat (first | apply Kd.R_alloc | apply Kd.R_drewN | apply Kd.R_drew)); exact Kd.R_mono HO255.out (fun _ hk => ⟨hk.1.2, hk.2⟩)⟩, ⟨by (with_reducible repeat (first | apply Kd.R_alloc | apply Kd.R_drewN | apply Kd.R_drew)); exact Kd.R_mono HO263.out (fun _ hk => ⟨hk.1.2, hk.2⟩)⟩, ⟨zh BK233⟩, ⟨zh BK250⟩, ⟨zh BK258⟩, ⟨zh BK267⟩, ⟨by repeat (first | (with_reducible first | exact HB.out | apply below_alloc | apply pw_below_drewN | apply below_drew1 | refine below_set ?_ GE233.out | refine below_set ?_ GE250.out | refine below_set ?_ GE258.out | refine below_set ?_ GE267.out) | exact HB.out)⟩⟩
 case rest =>
  clear HC12
  try clear c1
  try clear c2
  try clear p2
  try clear c3
  try clear c4
  try clear c4b0
  try clear c5
  try clear c8
  try clear c15
  try clear c17
  try clear c21
  try clear c27
  try clear c28
  try clear c33
  try clear c34
  try clear c35
  try clear c36
  try clear c39
  try clear c40
  try clear c41
  try clear c42
  try clear c44
  try clear c45
  try clear c48
  try clear c49
  try clear c50
  try clear c52
  try clear c53
  try clear hcz14_0
  try clear hcz14_1
  try clear hcz14_2
  try clear hcz14_3
  try clear hcz14_4
  try clear hcz16_0
  try clear hcz16_1
  try clear hcz16_2
  try clear hcz16_3
  try clear hcz16_4
  try clear hcz22_0
  try clear hcz22_1
  try clear hcz22_2
  try clear hcz22_3
  try clear hcz22_4
  try clear hcz24_0
  try clear hcz24_1
  try clear hcz24_2
  try clear hcz24_3
  try clear hcz24_4
  try clear hcz29_0
  try clear hcz29_1
  try clear hcz29_2
  try clear hcz29_3
  try clear hcz29_4
  try clear hcz36_0
  try clear hcz36_1
  try clear hcz36_2
  try clear hcz36_3
  try clear hcz36_4
  try clear hcz43_0
  try clear hcz43_1
  try clear hcz43_2
  try clear hcz43_3
  try clear hcz43_4
  try clear hcz46_0
  try clear hcz46_1
  try clear hcz46_2
  try clear hcz46_3
  try clear hcz46_4
  try clear hcz51_0
  try clear hcz51_1
  try clear hcz51_2
  try clear hcz51_3
  try clear hcz51_4
  try clear hcz54_0
  try clear hcz54_1
  try clear hcz54_2
  try clear hcz54_3
  try clear hcz54_4
  try clear hcz6_0
  try clear hcz6_1
  try clear hcz6_2
  try clear hcz6_3
  try clear hcz6_4
  try clear hfz14_0
  try clear hfz14_1
  try clear hfz14_2
  try clear hfz14_3
  try clear hfz14_4
  try clear hfz16_0
  try clear hfz16_1
  try clear hfz16_2
  try clear hfz16_3
  try clear hfz16_4
  try clear hfz22_0
  try clear hfz22_1
  try clear hfz22_2
  try clear hfz22_3
  try clear hfz22_4
  try clear hfz24_0
  try clear hfz24_1
  try clear hfz24_2
  try clear hfz24_3
  try clear hfz24_4
  try clear hfz29_0
  try clear hfz29_1
  try clear hfz29_2
  try clear hfz29_3
  try clear hfz29_4
  try clear hfz36_0
  try clear hfz36_1
  try clear hfz36_2
  try clear hfz36_3
  try clear hfz36_4
  try clear hfz43_0
  try clear hfz43_1
  try clear hfz43_2
  try clear hfz43_3
  try clear hfz43_4
  try clear hfz46_0
  try clear hfz46_1
  try clear hfz46_2
  try clear hfz46_3
  try clear hfz46_4
  try clear hfz51_0
  try clear hfz51_1
  try clear hfz51_2
  try clear hfz51_3
  try clear hfz51_4
  try clear hfz54_0
  try clear hfz54_1
  try clear hfz54_2
  try clear hfz54_3
  try clear hfz54_4
  try clear hfz6_0
  try clear hfz6_1
  try clear hfz6_2
  try clear hfz6_3
  try clear hfz6_4
  obtain ⟨kq, x44_11, rfl, HA, HJ11, HO_251002, HO_259002, HO_268002, BK233, BK250, BK258, BK267, HB⟩ := hcut
  cases kq with
  | zero => exact absurd HA.out (by simp [laws_FnExactFlyShift.j0])
  | succ kj11 =>
   have H := HA.out
   clear HA
   simp only [laws_FnExactFlyShift.j0] at H
   by_cases c56 : x44_11 = true
   ·subst c56
    have H1 : (some false) = some r := by rw [if_pos rfl] at H; exact H
    clear H
    have H := H1
    clear H1
    obtain rfl := Option.some.inj H
    go_wp2
    go_ret
    exact ⟨ze, by repeat (first | (with_reducible first | exact HB.out | apply below_alloc | apply pw_below_drewN | apply below_drew1 | refine below_set ?_ GE233.out | refine below_set ?_ GE250.out | refine below_set ?_ GE258.out | refine below_set ?_ GE267.out) | exact HB.out)⟩
   replace c56 := Bool.eq_false_iff.mpr c56
   subst c56
   have H1 : ((laws_toFlyPath.f kj11 a0_0 a0_1 l0_2 a0_3 a0_4).bind fun bt269 => ((laws_eqFlyPath.f kj11 t251 t252 t253 t256 t257 bt269.1 bt269.2.1 bt269.2.2.1 bt269.2.2.2.1 bt269.2.2.2.2).bind fun t276 => (if t276 = true then ((laws_markFlyPath.f kj11 t251 t252 t253 t256 t257 1).bind fun bt277 => (if bt277.1 < 0 then (laws_FnExactFlyShift.j1 kj11 a1 t249 true a0_0 a0_1 l0_2 a0_3 a0_4 t242 t243 t244 t247 t248 t259 t260 t261 t264 t265) else ((laws_eqFlyPath.f kj11 t259 t260 t261 t264 t265 t242 t243 t244 t247 t248).bind fun t279 => (if t279 = true then (laws_FnExactFlyShift.j1 kj11 a1 t249 (t266 != t249) a0_0 a0_1 l0_2 a0_3 a0_4 t242 t243 t244 t247 t248 t259 t260 t261 t264 t265) else (laws_FnExactFlyShift.j1 kj11 a1 t249 true a0_0 a0_1 l0_2 a0_3 a0_4 t242 t243 t244 t247 t248 t259 t260 t261 t264 t265))))) else (some false)))) = some r := by rw [if_neg (show ¬ (false = true) by decide)] at H; exact H
   clear H
   have H := H1
   clear H1
   replace H := Option.bind_eq_some_iff.mp H
   obtain ⟨⟨t269, t270, t271, t274, t275⟩, A570, H⟩ := H
   replace H : ((laws_eqFlyPath.f kj11 t251 t252 t253 t256 t257 t269 t270 t271 t274 t275).bind fun t276 => (if t276 = true then ((laws_markFlyPath.f kj11 t251 t252 t253 t256 t257 1).bind fun bt277 => (if bt277.1 < 0 then (laws_FnExactFlyShift.j1 kj11 a1 t249 true a0_0 a0_1 l0_2 a0_3 a0_4 t242 t243 t244 t247 t248 t259 t260 t261 t264 t265) else ((laws_eqFlyPath.f kj11 t259 t260 t261 t264 t265 t242 t243 t244 t247 t248).bind fun t279 => (if t279 = true then (laws_FnExactFlyShift.j1 kj11 a1 t249 (t266 != t249) a0_0 a0_1 l0_2 a0_3 a0_4 t242 t243 t244 t247 t248 t259 t260 t261 t264 t265) else (laws_FnExactFlyShift.j1 kj11 a1 t249 true a0_0 a0_1 l0_2 a0_3 a0_4 t242 t243 t244 t247 t248 t259 t260 t261 t264 t265))))) else (some false))) = some r := H
   have A57 := Aside0.mk A570
   clear A570
   replace H := Option.bind_eq_some_iff.mp H
   obtain ⟨t276, A580, H⟩ := H
   replace H : (if t276 = true then ((laws_markFlyPath.f kj11 t251 t252 t253 t256 t257 1).bind fun bt277 => (if bt277.1 < 0 then (laws_FnExactFlyShift.j1 kj11 a1 t249 true a0_0 a0_1 l0_2 a0_3 a0_4 t242 t243 t244 t247 t248 t259 t260 t261 t264 t265) else ((laws_eqFlyPath.f kj11 t259 t260 t261 t264 t265 t242 t243 t244 t247 t248).bind fun t279 => (if t279 = true then (laws_FnExactFlyShift.j1 kj11 a1 t249 (t266 != t249) a0_0 a0_1 l0_2 a0_3 a0_4 t242 t243 t244 t247 t248 t259 t260 t261 t264 t265) else (laws_FnExactFlyShift.j1 kj11 a1 t249 true a0_0 a0_1 l0_2 a0_3 a0_4 t242 t243 t244 t247 t248 t259 t260 t261 t264 t265))))) else (some false)) = some r := H
   have A58 := Aside0.mk A580
   clear A580
   by_cases c59 : t276 = true
   rotate_left
   ·replace c59 := Bool.eq_false_iff.mpr c59
    subst c59
    have H1 : (some false) = some r := by rw [if_neg (show ¬ (false = true) by decide)] at H; exact H
    clear H
    have H := H1
    clear H1
    obtain rfl := Option.some.inj H
    try go_wp2
    have n0_ := Aside0.mk (Kd.R_drew HO_251002.out)
    have n1_ := Aside0.mk (Kd.R_drew HO_259002.out)
    have n2_ := Aside0.mk (Kd.R_drew HO_268002.out)
    have n3_ := Aside0.mk (blk_drew BK233.out)
    have n4_ := Aside0.mk (blk_drew BK250.out)
    have n5_ := Aside0.mk (blk_drew BK258.out)
    have n6_ := Aside0.mk (blk_drew BK267.out)
    have n7_ := Aside0.mk (below_drew1 HB.out)
    clear HO_251002 HO_259002 HO_268002 BK233 BK250 BK258 BK267 HB
    revert n0_ n1_ n2_ n3_ n4_ n5_ n6_ n7_
    intro HO_251002 HO_259002 HO_268002 BK233 BK250 BK258 BK267 HB
    refine start_ (n := 5) (S := fun w' => w'.cell? ⟨gb258, 0, none⟩ = some (.int .i64 t251) ∧ w'.cell? ⟨gb258, 1, none⟩ = some (.int .i64 t252) ∧ w'.cell? ⟨gb258, 2, none⟩ = some (.slice Ao30 t253.length co30) ∧ w'.cell? ⟨gb258, 3, none⟩ = some (.int .i64 t256) ∧ w'.cell? ⟨gb258, 4, none⟩ = some (.int .i64 t257) ∧ w'.cell? ⟨gb233, 0, none⟩ = some (.int .i64 a0_0) ∧ w'.cell? ⟨gb233, 1, none⟩ = some (.int .i64 a0_1) ∧ w'.cell? ⟨gb233, 2, none⟩ = some (.slice A0_2 l0_2.length c0_2) ∧ w'.cell? ⟨gb233, 3, none⟩ = some (.int .i64 a0_3) ∧ w'.cell? ⟨gb233, 4, none⟩ = some (.int .i64 a0_4)) (ds := []) #[false, false, false, false, false] (by kernel_rfl) rfl rfl ⟨(blk_cell BK258.out 0).trans rfl, (blk_cell BK258.out 1).trans rfl, (blk_cell BK258.out 2).trans rfl, (blk_cell BK258.out 3).trans rfl, (blk_cell BK258.out 4).trans rfl, (blk_cell BK233.out 0).trans rfl, (blk_cell BK233.out 1).trans rfl, (blk_cell BK233.out 2).trans rfl, (blk_cell BK233.out 3).trans rfl, (blk_cell BK233.out 4).trans rfl⟩ (fun hHeld => ?_)
    generalize wc.drew = w176 at HO_251002 HO_259002 HO_268002 BK233 BK250 BK258 BK267 HB hHeld ⊢
    refine take_ (i := 0) (N := some 45) (v := ?_) (a' := ?_) #[true, false, false, false, false] rfl rfl (by kernel_rfl) (fun _ _ _ h => h) (Or.inl ⟨by rfl, ?_⟩) hHeld ?_ ?_; rotate_left; exact zt10; rotate_left; exact zput
    refine take_ (i := 1) (N := some 46) (v := ?_) (a' := ?_) #[true, true, false, false, false] rfl rfl (by kernel_rfl) (fun _ _ _ h => h) (Or.inl ⟨by rfl, ?_⟩) hHeld ?_ ?_; rotate_left; exact zt10; rotate_left; exact zput
    refine one_ (i := 2) (N := some 47) #[true, true, true, false, false] rfl rfl (by kernel_rfl) (by decide) (fun K hK => ?_)
    refine goes_ Try.func17 (by kernel_rfl) rfl #[.agg #[.int .i64 a0_0, .int .i64 a0_1, .slice A0_2 l0_2.length c0_2, .int .i64 a0_3, .int .i64 a0_4]] (by rfl) rfl rfl zl ?_
    with_reducible refine (laws_toFlyPath.calls kj11 a0_0 a0_1 _ _ l0_2 a0_3 a0_4 t269 t270 t271 t274 t275 _ ?side1 ?side2 A57.out).mono ?_
    (case side1 => exact zC HR0_2 HB)
    (case side2 => exact HC0_2.out)
    rintro e w177 ⟨v272, rfl, ho0, hb⟩
    refine ⟨_, rfl, ?_⟩
    have n0_ := Aside0.mk (Kd.R_elder' (zr HO_251002) (Kd.R_base ho0) hb)
    have n1_ := Aside0.mk (Kd.R_elder' (zr HO_259002) (Kd.R_base ho0) hb)
    have n2_ := Aside0.mk (Kd.R_elder' (zr HO_268002) (Kd.R_base ho0) hb)
    have n3_ := Aside0.mk (Kd.R_lower (Kd.R_new' (Kd.R_new' (Kd.R_new' ho0 (Kd.R_lt (zr HO_251002))) (Kd.R_lt (zr HO_259002))) (Kd.R_lt (zr HO_268002))) (below_size (by repeat (first | (with_reducible first | exact HB.out | apply below_alloc | apply pw_below_drewN | apply below_drew1 | refine below_set ?_ GE233.out | refine below_set ?_ GE250.out | refine below_set ?_ GE258.out | refine below_set ?_ GE267.out) | exact HB.out))))
    have n4_ := zb BK233 hb
    have n5_ := zb BK250 hb
    have n6_ := zb BK258 hb
    have n7_ := zb BK267 hb
    have n8_ := Aside0.mk (below_step (by repeat (first | (with_reducible first | exact HB.out | apply below_alloc | apply pw_below_drewN | apply below_drew1 | refine below_set ?_ GE233.out | refine below_set ?_ GE250.out | refine below_set ?_ GE258.out | refine below_set ?_ GE267.out) | exact HB.out)) hb)
    clear HO_251002
    clear HO_259002
    clear HO_268002
    clear BK233
    clear BK250
    clear BK258
    clear BK267
    clear HB
    have HO_251002 := n0_
    have HO_259002 := n1_
    have HO_268002 := n2_
    have HO273 := n3_
    have BK233 := n4_
    have BK250 := n5_
    have BK258 := n6_
    have BK267 := n7_
    have HB := n8_
    clear n0_ n1_ n2_ n3_ n4_ n5_ n6_ n7_ n8_
    (try clear hb)
    (try clear hb2)
    (try clear hk)
    (try clear hi)
    (try clear ho0)
    obtain ⟨Ao178, co178, eo178⟩ := Kd.R_slice HO273.out
    (first | subst eo178 | (injection eo178 with f1_ f2_ f3_; have f4_ := f1_.symm; have f5_ := f3_.symm; clear f1_ f2_ f3_; subst f4_; subst f5_))
    refine hK.out _ _ ⟨(blk_cell BK258.out 0).trans rfl, (blk_cell BK258.out 1).trans rfl, (blk_cell BK258.out 2).trans rfl, (blk_cell BK258.out 3).trans rfl, (blk_cell BK258.out 4).trans rfl, (blk_cell BK233.out 0).trans rfl, (blk_cell BK233.out 1).trans rfl, (blk_cell BK233.out 2).trans rfl, (blk_cell BK233.out 3).trans rfl, (blk_cell BK233.out 4).trans rfl⟩ (fun hHeld => ?_)
    clear hK K
    refine norm_ (a' := ?_) ?_ ?_
    rotate_left
    ·show Act.put _ (some 47) _ = _
     simp only [Act.put, List.setIfInBounds_toArray, List.set_cons_zero, List.set_cons_succ, i64_w, i32_w]
     rfl
    refine one_ (i := 3) (N := some 48) #[true, true, true, true, false] rfl rfl (by kernel_rfl) (by decide) (fun K hK => ?_)
    refine goes_ Try.func21 (by kernel_rfl) rfl #[.agg #[.int .i64 t251, .int .i64 t252, .slice Ao30 t253.length co30, .int .i64 t256, .int .i64 t257], .agg #[.int .i64 t269, .int .i64 t270, .slice Ao178 t271.length co178, .int .i64 t274, .int .i64 t275]] (by rfl) rfl rfl zl ?_
    with_reducible refine (laws_eqFlyPath.calls kj11 t251 t252 _ _ t253 t256 t257 t269 t270 _ _ t271 t274 t275 false _ ?side1 ?side2 ?side3 ?side4 A58.out).mono ?_
    (case side1 => repeat (first | exact (Kd.R_reads' HO_259002.out).2.2 | (with_reducible refine Kd.C_alloc ?_ _) | (with_reducible refine Kd.C_drewN ?_ _) | (with_reducible refine Kd.C_drew ?_)))
    (case side2 => exact (Kd.R_reads' HO_259002.out).2.1)
    (case side3 => repeat (first | exact (Kd.R_reads' HO273.out).2.2 | (with_reducible refine Kd.C_alloc ?_ _) | (with_reducible refine Kd.C_drewN ?_ _) | (with_reducible refine Kd.C_drew ?_)))
    (case side4 => exact (Kd.R_reads' HO273.out).2.1)
    rintro e w179 ⟨rfl, hb⟩
    refine ⟨_, rfl, ?_⟩
    have n0_ := Aside0.mk (Kd.R_below (zr HO_251002) hb)
    have n1_ := Aside0.mk (Kd.R_below (zr HO_259002) hb)
    have n2_ := Aside0.mk (Kd.R_below (zr HO_268002) hb)
    have n3_ := Aside0.mk (Kd.R_below (zr HO273) hb)
    have n4_ := zb BK233 hb
    have n5_ := zb BK250 hb
    have n6_ := zb BK258 hb
    have n7_ := zb BK267 hb
    have n8_ := Aside0.mk (below_step (by repeat (first | (with_reducible first | exact HB.out | apply below_alloc | apply pw_below_drewN | apply below_drew1 | refine below_set ?_ GE233.out | refine below_set ?_ GE250.out | refine below_set ?_ GE258.out | refine below_set ?_ GE267.out) | exact HB.out)) hb)
    clear HO_251002 HO_259002 HO_268002 HO273 BK233 BK250 BK258 BK267 HB
    revert n0_ n1_ n2_ n3_ n4_ n5_ n6_ n7_ n8_
    intro HO_251002 HO_259002 HO_268002 HO273 BK233 BK250 BK258 BK267 HB
    (try clear hb)
    (try clear hb2)
    (try clear hk)
    (try clear hi)
    refine hK.out _ _ ⟨(blk_cell BK258.out 0).trans rfl, (blk_cell BK258.out 1).trans rfl, (blk_cell BK258.out 2).trans rfl, (blk_cell BK258.out 3).trans rfl, (blk_cell BK258.out 4).trans rfl, (blk_cell BK233.out 0).trans rfl, (blk_cell BK233.out 1).trans rfl, (blk_cell BK233.out 2).trans rfl, (blk_cell BK233.out 3).trans rfl, (blk_cell BK233.out 4).trans rfl⟩ (fun hHeld => ?_)
    clear hK K
    refine norm_ (a' := ?_) ?_ ?_
    rotate_left
    ·show Act.put _ (some 48) _ = _
     simp only [Act.put, List.setIfInBounds_toArray, List.set_cons_zero, List.set_cons_succ, i64_w, i32_w]
     rfl
    refine pure_ (i := 4) (N := some 49) (v := ?_) (a' := ?_) #[true, true, true, true, true] rfl rfl (by kernel_rfl) (fun _ _ _ h => h) (Or.inl ⟨by rfl, ?_⟩) ?_ ?_; rotate_left; exact zy; rotate_left; exact zput
    refine done_ (by kernel_rfl) ?_
    try go_wp2
    go_ret
    exact ⟨ze, by repeat (first | (with_reducible first | exact HB.out | apply below_alloc | apply pw_below_drewN | apply below_drew1 | refine below_set ?_ GE233.out | refine below_set ?_ GE250.out | refine below_set ?_ GE258.out | refine below_set ?_ GE267.out) | exact HB.out)⟩
   subst c59
   have H1 : ((laws_markFlyPath.f kj11 t251 t252 t253 t256 t257 1).bind fun bt277 => (if bt277.1 < 0 then (laws_FnExactFlyShift.j1 kj11 a1 t249 true a0_0 a0_1 l0_2 a0_3 a0_4 t242 t243 t244 t247 t248 t259 t260 t261 t264 t265) else ((laws_eqFlyPath.f kj11 t259 t260 t261 t264 t265 t242 t243 t244 t247 t248).bind fun t279 => (if t279 = true then (laws_FnExactFlyShift.j1 kj11 a1 t249 (t266 != t249) a0_0 a0_1 l0_2 a0_3 a0_4 t242 t243 t244 t247 t248 t259 t260 t261 t264 t265) else (laws_FnExactFlyShift.j1 kj11 a1 t249 true a0_0 a0_1 l0_2 a0_3 a0_4 t242 t243 t244 t247 t248 t259 t260 t261 t264 t265))))) = some r := by rw [if_pos rfl] at H; exact H
   clear H
   have H := H1
   clear H1
   replace H := Option.bind_eq_some_iff.mp H
   obtain ⟨⟨t277, t278⟩, A600, H⟩ := H
   replace H : (if t277 < 0 then (laws_FnExactFlyShift.j1 kj11 a1 t249 true a0_0 a0_1 l0_2 a0_3 a0_4 t242 t243 t244 t247 t248 t259 t260 t261 t264 t265) else ((laws_eqFlyPath.f kj11 t259 t260 t261 t264 t265 t242 t243 t244 t247 t248).bind fun t279 => (if t279 = true then (laws_FnExactFlyShift.j1 kj11 a1 t249 (t266 != t249) a0_0 a0_1 l0_2 a0_3 a0_4 t242 t243 t244 t247 t248 t259 t260 t261 t264 t265) else (laws_FnExactFlyShift.j1 kj11 a1 t249 true a0_0 a0_1 l0_2 a0_3 a0_4 t242 t243 t244 t247 t248 t259 t260 t261 t264 t265)))) = some r := H
   have A60 := Aside0.mk A600
   clear A600
   have HC61 := Aside0.mk H
   clear H
   try go_wp2
   have n0_ := Aside0.mk (Kd.R_drew HO_251002.out)
   have n1_ := Aside0.mk (Kd.R_drew HO_259002.out)
   have n2_ := Aside0.mk (Kd.R_drew HO_268002.out)
   have n3_ := Aside0.mk (blk_drew BK233.out)
   have n4_ := Aside0.mk (blk_drew BK250.out)
   have n5_ := Aside0.mk (blk_drew BK258.out)
   have n6_ := Aside0.mk (blk_drew BK267.out)
   have n7_ := Aside0.mk (below_drew1 HB.out)
   clear HO_251002 HO_259002 HO_268002 BK233 BK250 BK258 BK267 HB
   revert n0_ n1_ n2_ n3_ n4_ n5_ n6_ n7_
   intro HO_251002 HO_259002 HO_268002 BK233 BK250 BK258 BK267 HB
   refine start_ (n := 5) (S := fun w' => w'.cell? ⟨gb258, 0, none⟩ = some (.int .i64 t251) ∧ w'.cell? ⟨gb258, 1, none⟩ = some (.int .i64 t252) ∧ w'.cell? ⟨gb258, 2, none⟩ = some (.slice Ao30 t253.length co30) ∧ w'.cell? ⟨gb258, 3, none⟩ = some (.int .i64 t256) ∧ w'.cell? ⟨gb258, 4, none⟩ = some (.int .i64 t257) ∧ w'.cell? ⟨gb233, 0, none⟩ = some (.int .i64 a0_0) ∧ w'.cell? ⟨gb233, 1, none⟩ = some (.int .i64 a0_1) ∧ w'.cell? ⟨gb233, 2, none⟩ = some (.slice A0_2 l0_2.length c0_2) ∧ w'.cell? ⟨gb233, 3, none⟩ = some (.int .i64 a0_3) ∧ w'.cell? ⟨gb233, 4, none⟩ = some (.int .i64 a0_4)) (ds := []) #[false, false, false, false, false] (by kernel_rfl) rfl rfl ⟨(blk_cell BK258.out 0).trans rfl, (blk_cell BK258.out 1).trans rfl, (blk_cell BK258.out 2).trans rfl, (blk_cell BK258.out 3).trans rfl, (blk_cell BK258.out 4).trans rfl, (blk_cell BK233.out 0).trans rfl, (blk_cell BK233.out 1).trans rfl, (blk_cell BK233.out 2).trans rfl, (blk_cell BK233.out 3).trans rfl, (blk_cell BK233.out 4).trans rfl⟩ (fun hHeld => ?_)
   generalize wc.drew = w62 at HO_251002 HO_259002 HO_268002 BK233 BK250 BK258 BK267 HB hHeld ⊢
   refine take_ (i := 0) (N := some 45) (v := ?_) (a' := ?_) #[true, false, false, false, false] rfl rfl (by kernel_rfl) (fun _ _ _ h => h) (Or.inl ⟨by rfl, ?_⟩) hHeld ?_ ?_; rotate_left; exact zt10; rotate_left; exact zput
   refine take_ (i := 1) (N := some 46) (v := ?_) (a' := ?_) #[true, true, false, false, false] rfl rfl (by kernel_rfl) (fun _ _ _ h => h) (Or.inl ⟨by rfl, ?_⟩) hHeld ?_ ?_; rotate_left; exact zt10; rotate_left; exact zput
   refine one_ (i := 2) (N := some 47) #[true, true, true, false, false] rfl rfl (by kernel_rfl) (by decide) (fun K hK => ?_)
   refine goes_ Try.func17 (by kernel_rfl) rfl #[.agg #[.int .i64 a0_0, .int .i64 a0_1, .slice A0_2 l0_2.length c0_2, .int .i64 a0_3, .int .i64 a0_4]] (by rfl) rfl rfl zl ?_
   with_reducible refine (laws_toFlyPath.calls kj11 a0_0 a0_1 _ _ l0_2 a0_3 a0_4 t269 t270 t271 t274 t275 _ ?side1 ?side2 A57.out).mono ?_
   (case side1 => exact zC HR0_2 HB)
   (case side2 => exact HC0_2.out)
   rintro e w63 ⟨v272, rfl, ho0, hb⟩
   refine ⟨_, rfl, ?_⟩
   have n0_ := Aside0.mk (Kd.R_elder' (zr HO_251002) (Kd.R_base ho0) hb)
   have n1_ := Aside0.mk (Kd.R_elder' (zr HO_259002) (Kd.R_base ho0) hb)
   have n2_ := Aside0.mk (Kd.R_elder' (zr HO_268002) (Kd.R_base ho0) hb)
   have n3_ := Aside0.mk (Kd.R_lower (Kd.R_new' (Kd.R_new' (Kd.R_new' ho0 (Kd.R_lt (zr HO_251002))) (Kd.R_lt (zr HO_259002))) (Kd.R_lt (zr HO_268002))) (below_size (by repeat (first | (with_reducible first | exact HB.out | apply below_alloc | apply pw_below_drewN | apply below_drew1 | refine below_set ?_ GE233.out | refine below_set ?_ GE250.out | refine below_set ?_ GE258.out | refine below_set ?_ GE267.out) | exact HB.out))))
   have n4_ := zb BK233 hb
   have n5_ := zb BK250 hb
   have n6_ := zb BK258 hb
   have n7_ := zb BK267 hb
   have n8_ := Aside0.mk (below_step (by repeat (first | (with_reducible first | exact HB.out | apply below_alloc | apply pw_below_drewN | apply below_drew1 | refine below_set ?_ GE233.out | refine below_set ?_ GE250.out | refine below_set ?_ GE258.out | refine below_set ?_ GE267.out) | exact HB.out)) hb)
   clear HO_251002
   clear HO_259002
   clear HO_268002
   clear BK233
   clear BK250
   clear BK258
   clear BK267
   clear HB
   have HO_251002 := n0_
   have HO_259002 := n1_
   have HO_268002 := n2_
   have HO273 := n3_
   have BK233 := n4_
   have BK250 := n5_
   have BK258 := n6_
   have BK267 := n7_
   have HB := n8_
   clear n0_ n1_ n2_ n3_ n4_ n5_ n6_ n7_ n8_
   (try clear hb)
   (try clear hb2)
   (try clear hk)
   (try clear hi)
   (try clear ho0)
   obtain ⟨Ao64, co64, eo64⟩ := Kd.R_slice HO273.out
   (first | subst eo64 | (injection eo64 with f1_ f2_ f3_; have f4_ := f1_.symm; have f5_ := f3_.symm; clear f1_ f2_ f3_; subst f4_; subst f5_))
   refine hK.out _ _ ⟨(blk_cell BK258.out 0).trans rfl, (blk_cell BK258.out 1).trans rfl, (blk_cell BK258.out 2).trans rfl, (blk_cell BK258.out 3).trans rfl, (blk_cell BK258.out 4).trans rfl, (blk_cell BK233.out 0).trans rfl, (blk_cell BK233.out 1).trans rfl, (blk_cell BK233.out 2).trans rfl, (blk_cell BK233.out 3).trans rfl, (blk_cell BK233.out 4).trans rfl⟩ (fun hHeld => ?_)
   clear hK K
   refine norm_ (a' := ?_) ?_ ?_
   rotate_left
   ·show Act.put _ (some 47) _ = _
    simp only [Act.put, List.setIfInBounds_toArray, List.set_cons_zero, List.set_cons_succ, i64_w, i32_w]
    rfl
   refine one_ (i := 3) (N := some 48) #[true, true, true, true, false] rfl rfl (by kernel_rfl) (by decide) (fun K hK => ?_)
   refine goes_ Try.func21 (by kernel_rfl) rfl #[.agg #[.int .i64 t251, .int .i64 t252, .slice Ao30 t253.length co30, .int .i64 t256, .int .i64 t257], .agg #[.int .i64 t269, .int .i64 t270, .slice Ao64 t271.length co64, .int .i64 t274, .int .i64 t275]] (by rfl) rfl rfl zl ?_
   with_reducible refine (laws_eqFlyPath.calls kj11 t251 t252 _ _ t253 t256 t257 t269 t270 _ _ t271 t274 t275 true _ ?side1 ?side2 ?side3 ?side4 A58.out).mono ?_
   (case side1 => repeat (first | exact (Kd.R_reads' HO_259002.out).2.2 | (with_reducible refine Kd.C_alloc ?_ _) | (with_reducible refine Kd.C_drewN ?_ _) | (with_reducible refine Kd.C_drew ?_)))
   (case side2 => exact (Kd.R_reads' HO_259002.out).2.1)
   (case side3 => repeat (first | exact (Kd.R_reads' HO273.out).2.2 | (with_reducible refine Kd.C_alloc ?_ _) | (with_reducible refine Kd.C_drewN ?_ _) | (with_reducible refine Kd.C_drew ?_)))
   (case side4 => exact (Kd.R_reads' HO273.out).2.1)
   rintro e w65 ⟨rfl, hb⟩
   refine ⟨_, rfl, ?_⟩
   have n0_ := Aside0.mk (Kd.R_below (zr HO_251002) hb)
   have n1_ := Aside0.mk (Kd.R_below (zr HO_259002) hb)
   have n2_ := Aside0.mk (Kd.R_below (zr HO_268002) hb)
   have n3_ := Aside0.mk (Kd.R_below (zr HO273) hb)
   have n4_ := zb BK233 hb
   have n5_ := zb BK250 hb
   have n6_ := zb BK258 hb
   have n7_ := zb BK267 hb
   have n8_ := Aside0.mk (below_step (by repeat (first | (with_reducible first | exact HB.out | apply below_alloc | apply pw_below_drewN | apply below_drew1 | refine below_set ?_ GE233.out | refine below_set ?_ GE250.out | refine below_set ?_ GE258.out | refine below_set ?_ GE267.out) | exact HB.out)) hb)
   clear HO_251002 HO_259002 HO_268002 HO273 BK233 BK250 BK258 BK267 HB
   revert n0_ n1_ n2_ n3_ n4_ n5_ n6_ n7_ n8_
   intro HO_251002 HO_259002 HO_268002 HO273 BK233 BK250 BK258 BK267 HB
   (try clear hb)
   (try clear hb2)
   (try clear hk)
   (try clear hi)
   refine hK.out _ _ ⟨(blk_cell BK258.out 0).trans rfl, (blk_cell BK258.out 1).trans rfl, (blk_cell BK258.out 2).trans rfl, (blk_cell BK258.out 3).trans rfl, (blk_cell BK258.out 4).trans rfl, (blk_cell BK233.out 0).trans rfl, (blk_cell BK233.out 1).trans rfl, (blk_cell BK233.out 2).trans rfl, (blk_cell BK233.out 3).trans rfl, (blk_cell BK233.out 4).trans rfl⟩ (fun hHeld => ?_)
   clear hK K
   refine norm_ (a' := ?_) ?_ ?_
   rotate_left
   ·show Act.put _ (some 48) _ = _
    simp only [Act.put, List.setIfInBounds_toArray, List.set_cons_zero, List.set_cons_succ, i64_w, i32_w]
    rfl
   refine pure_ (i := 4) (N := some 49) (v := ?_) (a' := ?_) #[true, true, true, true, true] rfl rfl (by kernel_rfl) (fun _ _ _ h => h) (Or.inl ⟨by rfl, ?_⟩) ?_ ?_; rotate_left; exact zy; rotate_left; exact zput
   refine done_ (by kernel_rfl) ?_
   have hnb66 := NB258_233.out
   have hnc66 := NB233_258.out
   have hnb67 := NB258_250.out
   have hnc67 := NB250_258.out
   have hnb68 := NB258_267.out
   have hnc68 := NB267_258.out
   obtain ⟨hcz69_0, hcz69_1, hcz69_2, hcz69_3, hcz69_4⟩ := zd5 BK258
   obtain ⟨hfz69_0, hfz69_1, hfz69_2, hfz69_3, hfz69_4⟩ := zn5 BK258
   go_upto_region 14 with (first | ((with_reducible refine gate_callee (f := 22) rfl ?_); refine goesL_ (some 52) rfl rfl Try.func22 (by kernel_rfl) rfl #[.agg #[.int .i64 t251, .int .i64 t252, .slice Ao30 t253.length co30, .int .i64 t256, .int .i64 t257], .int .i64 1] rfl zl ?_; (with_reducible refine (laws_markFlyPath.calls kj11 t251 t252 (fun k_ => some k_ = (.slice Ao30 t253.length co30 : Value).ownBlock) (.slice Ao30 t253.length co30) t253 t256 t257 1 t277 t278 w _ ?side1 ?side2 A60.out).mono ?_); (case side1 => repeat (first | (with_reducible first | exact HB.out | apply below_alloc | apply pw_below_drewN | apply below_drew1 | refine below_set ?_ GE233.out | refine below_set ?_ GE250.out | refine below_set ?_ GE258.out | refine below_set ?_ GE267.out) | exact HB.out)); (case side2 => exact Kd.R_tight rfl HO_259002.out); rintro e w70 ⟨rfl, hy0, hb, hkp⟩; refine ⟨_, rfl, ?_⟩; have n0_ := Aside0.mk (Kd.R_mono (ok' := fun k_ => some k_ ≠ (.slice Ao30 t253.length co30 : Value).ownBlock ∧ some k_ ≠ (.slice Ao37 t261.length co37 : Value).ownBlock ∧ some k_ ≠ (.slice Ao64 t271.length co64 : Value).ownBlock) (Kd.R_keptB (HO_251002.out) hkp (fun k_ hk_ hs_ => (hk_.1.1) hs_)) (fun k_ hk_ => ⟨hk_.1.1.1, hk_.1.1.2, hk_.1.2⟩)); have n1_ := Aside0.mk (Kd.R_reok rfl hy0 (fun k_ e_ => HO_259002.out.1 k_ e_)); have n2_ := Aside0.mk (Kd.R_mono (ok' := fun k_ => some k_ ≠ (.slice Ao23 t244.length co23 : Value).ownBlock ∧ some k_ ≠ (.slice Ao30 t253.length co30 : Value).ownBlock ∧ some k_ ≠ (.slice Ao64 t271.length co64 : Value).ownBlock) (Kd.R_keptB (HO_268002.out) hkp (fun k_ hk_ hs_ => (hk_.1.2) hs_)) (fun k_ hk_ => ⟨hk_.1.1.1, hk_.1.1.2, hk_.1.2⟩)); have n3_ := Aside0.mk (blk_kept (zh BK233) hkp (fun hs_ => (fun e_ => (Kd.R_ne HO_259002.out BK233.out (by decide)) e_) hs_)); have n4_ := Aside0.mk (blk_kept (zh BK250) hkp (fun hs_ => (fun e_ => (Kd.R_ne HO_259002.out BK250.out (by decide)) e_) hs_)); have n5_ := Aside0.mk (blk_kept (zh BK258) hkp (fun hs_ => (fun e_ => (Kd.R_ne HO_259002.out BK258.out (by decide)) e_) hs_)); have n6_ := Aside0.mk (blk_kept (zh BK267) hkp (fun hs_ => (fun e_ => (Kd.R_ne HO_259002.out BK267.out (by decide)) e_) hs_)); have n7_ := Aside0.mk (Kd.R_mono (ok' := fun k_ => some k_ ≠ (.slice Ao23 t244.length co23 : Value).ownBlock ∧ some k_ ≠ (.slice Ao30 t253.length co30 : Value).ownBlock ∧ some k_ ≠ (.slice Ao37 t261.length co37 : Value).ownBlock) (Kd.R_keptB (HO273.out) hkp (fun k_ hk_ hs_ => (hk_.1.2) hs_)) (fun k_ hk_ => ⟨hk_.1.1.1.2, hk_.1.1.2, hk_.1.2⟩)); have n8_ := Aside0.mk (hb); clear HO_251002 HO_259002 HO_268002 BK233 BK250 BK258 BK267 HO273 HB; revert n0_ n1_ n2_ n3_ n4_ n5_ n6_ n7_ n8_; intro HO_251002 HO_259002 HO_268002 BK233 BK250 BK258 BK267 HO273 HB; (try clear hb); (try clear hkp); (try clear hy0)))
   (try simp only [Act.put, List.setIfInBounds_toArray, List.set_cons_zero, List.set_cons_succ])
   go_cut [65] (fun v65 wc => ∃ (kq : Nat) (x65_60 : Bool), v65 = .bool x65_60 ∧ Aside0 (laws_FnExactFlyShift.j1 kq a1 t249 x65_60 a0_0 a0_1 l0_2 a0_3 a0_4 t242 t243 t244 t247 t248 t259 t260 t261 t264 t265 = some r) ∧ Aside0 (kq ≤ kj11) ∧ Aside0 (Kd.R k88 88 wc w.heap.size (fun k_ => some k_ ≠ ((.slice Ao30 t253.length co30) : Value).ownBlock ∧ some k_ ≠ ((.slice Ao37 t261.length co37) : Value).ownBlock) (.slice Ao23 t244.length co23) t244) ∧ Aside0 (Kd.R k88 88 wc w.heap.size (fun k_ => some k_ ≠ ((.slice Ao23 t244.length co23) : Value).ownBlock ∧ some k_ ≠ ((.slice Ao37 t261.length co37) : Value).ownBlock) (.slice Ao30 t253.length co30) t278) ∧ Aside0 (Kd.R k88 88 wc w.heap.size (fun k_ => some k_ ≠ ((.slice Ao23 t244.length co23) : Value).ownBlock ∧ some k_ ≠ ((.slice Ao30 t253.length co30) : Value).ownBlock) (.slice Ao37 t261.length co37) t261) ∧ Aside0 (wc.heap[gb233]? = some (.cells #[.int .i64 a0_0, .int .i64 a0_1, (.slice A0_2 l0_2.length c0_2), .int .i64 a0_3, .int .i64 a0_4] 26 (0, 0))) ∧ Aside0 (wc.heap[gb250]? = some (.cells #[.int .i64 t242, .int .i64 t243, (.slice Ao23 t244.length co23), .int .i64 t247, .int .i64 t248] 34 (0, 0))) ∧ Aside0 (wc.heap[gb258]? = some (.cells #[.int .i64 t251, .int .i64 t252, (.slice Ao30 t253.length co30), .int .i64 t256, .int .i64 t257] 34 (0, 0))) ∧ Aside0 (wc.heap[gb267]? = some (.cells #[.int .i64 t259, .int .i64 t260, (.slice Ao37 t261.length co37), .int .i64 t264, .int .i64 t265] 34 (0, 0))) ∧ Aside0 (Below w.heap.size w wc))
   case first =>
    have H := HC61.out
    clear HC61
    by_cases c71 : t277 < 0
    ·rw [if_pos c71] at H
     have c71b0 : decide (t277 < 0) = true := decide_eq_true c71
     clear c71
     (first | rw [c71b0] | (simp only [i64_w, i32_w]; rw [c71b0]) | skip)
     have H' := Aside0.mk H
     clear H
     go_wp2
     go_meet
     case rel => exact ⟨_, (true), zi, H', ⟨by have := HJ11.out; first | omega | exact Nat.le_refl _⟩, ⟨by (with_reducible repeat (first | apply Kd.R_alloc | apply Kd.R_drewN | apply Kd.R_drew)); exact Kd.R_mono HO_251002.out (fun _ hk => ⟨hk.1, hk.2.1⟩)⟩, ⟨by (with_reducible repeat (first | apply Kd.R_alloc | apply Kd.R_drewN | apply Kd.R_drew)); exact Kd.R_mono HO_259002.out (fun _ hk => ⟨hk.1.1, hk.1.2⟩)⟩, ⟨by (with_reducible repeat (first | apply Kd.R_alloc | apply Kd.R_drewN | apply Kd.R_drew)); exact Kd.R_mono HO_268002.out (fun _ hk => ⟨hk.1, hk.2.1⟩)⟩, ⟨zh BK233⟩, ⟨zh BK250⟩, ⟨zh BK258⟩, ⟨zh BK267⟩, ⟨by repeat (first | (with_reducible first | exact HB.out | apply below_alloc | apply pw_below_drewN | apply below_drew1 | refine below_set ?_ GE233.out | refine below_set ?_ GE250.out | refine below_set ?_ GE258.out | refine below_set ?_ GE267.out) | exact HB.out)⟩⟩
    rw [if_neg c71] at H
    have c71b0 : decide (t277 < 0) = false := decide_eq_false c71
    clear c71
    (first | rw [c71b0] | (simp only [i64_w, i32_w]; rw [c71b0]) | skip)
    replace H := Option.bind_eq_some_iff.mp H
    obtain ⟨t279, A720, H⟩ := H
    replace H : (if t279 = true then (laws_FnExactFlyShift.j1 kj11 a1 t249 (t266 != t249) a0_0 a0_1 l0_2 a0_3 a0_4 t242 t243 t244 t247 t248 t259 t260 t261 t264 t265) else (laws_FnExactFlyShift.j1 kj11 a1 t249 true a0_0 a0_1 l0_2 a0_3 a0_4 t242 t243 t244 t247 t248 t259 t260 t261 t264 t265)) = some r := H
    have A72 := Aside0.mk A720
    clear A720
    by_cases c73 : t279 = true
    ·subst c73
     have H1 : (laws_FnExactFlyShift.j1 kj11 a1 t249 (t266 != t249) a0_0 a0_1 l0_2 a0_3 a0_4 t242 t243 t244 t247 t248 t259 t260 t261 t264 t265) = some r := by rw [if_pos rfl] at H; exact H
     clear H
     have H := H1
     clear H1
     have H' := Aside0.mk H
     clear H
     have hnb74 := NB267_233.out
     have hnc74 := NB233_267.out
     have hnb75 := NB267_250.out
     have hnc75 := NB250_267.out
     have hnb76 := NB267_258.out
     have hnc76 := NB258_267.out
     obtain ⟨hcz77_0, hcz77_1, hcz77_2, hcz77_3, hcz77_4⟩ := zd5 BK267
     obtain ⟨hfz77_0, hfz77_1, hfz77_2, hfz77_3, hfz77_4⟩ := zn5 BK267
     have hnb78 := NB250_233.out
     have hnc78 := NB233_250.out
     have hnb79 := NB250_258.out
     have hnc79 := NB258_250.out
     obtain ⟨hcz80_0, hcz80_1, hcz80_2, hcz80_3, hcz80_4⟩ := zd5 BK250
     obtain ⟨hfz80_0, hfz80_1, hfz80_2, hfz80_3, hfz80_4⟩ := zn5 BK250
     go_wp2_with (first | (go_at_call 21; (with_reducible refine (laws_eqFlyPath.calls kj11 t259 t260 _ _ t261 t264 t265 t242 t243 _ _ t244 t247 t248 true _ ?side1 ?side2 ?side3 ?side4 A72.out).mono ?_); (case side1 => repeat (first | exact (Kd.R_reads' HO_268002.out).2.2 | (with_reducible refine Kd.C_alloc ?_ _) | (with_reducible refine Kd.C_drewN ?_ _) | (with_reducible refine Kd.C_drew ?_))); (case side2 => exact (Kd.R_reads' HO_268002.out).2.1); (case side3 => repeat (first | exact (Kd.R_reads' HO_251002.out).2.2 | (with_reducible refine Kd.C_alloc ?_ _) | (with_reducible refine Kd.C_drewN ?_ _) | (with_reducible refine Kd.C_drew ?_))); (case side4 => exact (Kd.R_reads' HO_251002.out).2.1); rintro e w81 ⟨rfl, hb⟩; have n0_ := Aside0.mk (Kd.R_below (zr HO_251002) hb); have n1_ := Aside0.mk (Kd.R_below (zr HO_259002) hb); have n2_ := Aside0.mk (Kd.R_below (zr HO_268002) hb); have n3_ := Aside0.mk (Kd.R_below (zr HO273) hb); have n4_ := zb BK233 hb; have n5_ := zb BK250 hb; have n6_ := zb BK258 hb; have n7_ := zb BK267 hb; have n8_ := Aside0.mk (below_step (by repeat (first | (with_reducible first | exact HB.out | apply below_alloc | apply pw_below_drewN | apply below_drew1 | refine below_set ?_ GE233.out | refine below_set ?_ GE250.out | refine below_set ?_ GE258.out | refine below_set ?_ GE267.out) | exact HB.out)) hb); clear HO_251002 HO_259002 HO_268002 HO273 BK233 BK250 BK258 BK267 HB; revert n0_ n1_ n2_ n3_ n4_ n5_ n6_ n7_ n8_; intro HO_251002 HO_259002 HO_268002 HO273 BK233 BK250 BK258 BK267 HB; (try clear hb); (try clear hb2); (try clear hk); (try clear hi)))
     go_meet
     case rel => exact ⟨_, ((t266 != t249)), zi, H', ⟨by have := HJ11.out; first | omega | exact Nat.le_refl _⟩, ⟨by (with_reducible repeat (first | apply Kd.R_alloc | apply Kd.R_drewN | apply Kd.R_drew)); exact Kd.R_mono HO_251002.out (fun _ hk => ⟨hk.1, hk.2.1⟩)⟩, ⟨by (with_reducible repeat (first | apply Kd.R_alloc | apply Kd.R_drewN | apply Kd.R_drew)); exact Kd.R_mono HO_259002.out (fun _ hk => ⟨hk.1.1, hk.1.2⟩)⟩, ⟨by (with_reducible repeat (first | apply Kd.R_alloc | apply Kd.R_drewN | apply Kd.R_drew)); exact Kd.R_mono HO_268002.out (fun _ hk => ⟨hk.1, hk.2.1⟩)⟩, ⟨zh BK233⟩, ⟨zh BK250⟩, ⟨zh BK258⟩, ⟨zh BK267⟩, ⟨by repeat (first | (with_reducible first | exact HB.out | apply below_alloc | apply pw_below_drewN | apply below_drew1 | refine below_set ?_ GE233.out | refine below_set ?_ GE250.out | refine below_set ?_ GE258.out | refine below_set ?_ GE267.out) | exact HB.out)⟩⟩
    replace c73 := Bool.eq_false_iff.mpr c73
    subst c73
    have H1 : (laws_FnExactFlyShift.j1 kj11 a1 t249 true a0_0 a0_1 l0_2 a0_3 a0_4 t242 t243 t244 t247 t248 t259 t260 t261 t264 t265) = some r := by rw [if_neg (show ¬ (false = true) by decide)] at H; exact H
    clear H
    have H := H1
    clear H1
    have H' := Aside0.mk H
    clear H
    have hnb82 := NB267_233.out
    have hnc82 := NB233_267.out
    have hnb83 := NB267_250.out
    have hnc83 := NB250_267.out
    have hnb84 := NB267_258.out
    have hnc84 := NB258_267.out
    obtain ⟨hcz85_0, hcz85_1, hcz85_2, hcz85_3, hcz85_4⟩ := zd5 BK267
    obtain ⟨hfz85_0, hfz85_1, hfz85_2, hfz85_3, hfz85_4⟩ := zn5 BK267
    have hnb86 := NB250_233.out
    have hnc86 := NB233_250.out
    have hnb87 := NB250_258.out
    have hnc87 := NB258_250.out
    obtain ⟨hcz88_0, hcz88_1, hcz88_2, hcz88_3, hcz88_4⟩ := zd5 BK250
    obtain ⟨hfz88_0, hfz88_1, hfz88_2, hfz88_3, hfz88_4⟩ := zn5 BK250
    go_wp2_with (first | (go_at_call 21; (with_reducible refine (laws_eqFlyPath.calls kj11 t259 t260 _ _ t261 t264 t265 t242 t243 _ _ t244 t247 t248 false _ ?side1 ?side2 ?side3 ?side4 A72.out).mono ?_); (case side1 => repeat (first | exact (Kd.R_reads' HO_268002.out).2.2 | (with_reducible refine Kd.C_alloc ?_ _) | (with_reducible refine Kd.C_drewN ?_ _) | (with_reducible refine Kd.C_drew ?_))); (case side2 => exact (Kd.R_reads' HO_268002.out).2.1); (case side3 => repeat (first | exact (Kd.R_reads' HO_251002.out).2.2 | (with_reducible refine Kd.C_alloc ?_ _) | (with_reducible refine Kd.C_drewN ?_ _) | (with_reducible refine Kd.C_drew ?_))); (case side4 => exact (Kd.R_reads' HO_251002.out).2.1); rintro e w89 ⟨rfl, hb⟩; have n0_ := Aside0.mk (Kd.R_below (zr HO_251002) hb); have n1_ := Aside0.mk (Kd.R_below (zr HO_259002) hb); have n2_ := Aside0.mk (Kd.R_below (zr HO_268002) hb); have n3_ := Aside0.mk (Kd.R_below (zr HO273) hb); have n4_ := zb BK233 hb; have n5_ := zb BK250 hb; have n6_ := zb BK258 hb; have n7_ := zb BK267 hb; have n8_ := Aside0.mk (below_step (by repeat (first | (with_reducible first | exact HB.out | apply below_alloc | apply pw_below_drewN | apply below_drew1 | refine below_set ?_ GE233.out | refine below_set ?_ GE250.out | refine below_set ?_ GE258.out | refine below_set ?_ GE267.out) | exact HB.out)) hb); clear HO_251002 HO_259002 HO_268002 HO273 BK233 BK250 BK258 BK267 HB; revert n0_ n1_ n2_ n3_ n4_ n5_ n6_ n7_ n8_; intro HO_251002 HO_259002 HO_268002 HO273 BK233 BK250 BK258 BK267 HB; (try clear hb); (try clear hb2); (try clear hk); (try clear hi)))
    go_meet
    case rel => exact ⟨_, (true), zi, H', ⟨by have := HJ11.out; first | omega | exact Nat.le_refl _⟩, ⟨by (with_reducible repeat (first | apply Kd.R_alloc | apply Kd.R_drewN | apply Kd.R_drew)); exact Kd.R_mono HO_251002.out (fun _ hk => ⟨hk.1, hk.2.1⟩)⟩, ⟨by (with_reducible repeat (first | apply Kd.R_alloc | apply Kd.R_drewN | apply Kd.R_drew)); exact Kd.R_mono HO_259002.out (fun _ hk => ⟨hk.1.1, hk.1.2⟩)⟩, ⟨by (with_reducible repeat (first | apply Kd.R_alloc | apply Kd.R_drewN | apply Kd.R_drew)); exact Kd.R_mono HO_268002.out (fun _ hk => ⟨hk.1, hk.2.1⟩)⟩, ⟨zh BK233⟩, ⟨zh BK250⟩, ⟨zh BK258⟩, ⟨zh BK267⟩, ⟨by repeat (first | (with_reducible first | exact HB.out | apply below_alloc | apply pw_below_drewN | apply below_drew1 | refine below_set ?_ GE233.out | refine below_set ?_ GE250.out | refine below_set ?_ GE258.out | refine below_set ?_ GE267.out) | exact HB.out)⟩⟩
   case rest =>
    clear HC61
    try clear c1
    try clear c2
    try clear p2
    try clear c3
    try clear c4
    try clear c4b0
    try clear c5
    try clear c6
    try clear c7
    try clear c8
    try clear c15
    try clear c17
    try clear c21
    try clear c22
    try clear c27
    try clear c28
    try clear c33
    try clear c34
    try clear c35
    try clear c36
    try clear c39
    try clear c40
    try clear c41
    try clear c42
    try clear c44
    try clear c45
    try clear c48
    try clear c49
    try clear c50
    try clear c52
    try clear c53
    try clear c56
    try clear c59
    try clear c66
    try clear c67
    try clear c68
    try clear c71
    try clear c71b0
    try clear c73
    try clear c74
    try clear c75
    try clear c76
    try clear c78
    try clear c79
    try clear c82
    try clear c83
    try clear c84
    try clear c86
    try clear c87
    try clear hcz14_0
    try clear hcz14_1
    try clear hcz14_2
    try clear hcz14_3
    try clear hcz14_4
    try clear hcz16_0
    try clear hcz16_1
    try clear hcz16_2
    try clear hcz16_3
    try clear hcz16_4
    try clear hcz22_0
    try clear hcz22_1
    try clear hcz22_2
    try clear hcz22_3
    try clear hcz22_4
    try clear hcz24_0
    try clear hcz24_1
    try clear hcz24_2
    try clear hcz24_3
    try clear hcz24_4
    try clear hcz29_0
    try clear hcz29_1
    try clear hcz29_2
    try clear hcz29_3
    try clear hcz29_4
    try clear hcz36_0
    try clear hcz36_1
    try clear hcz36_2
    try clear hcz36_3
    try clear hcz36_4
    try clear hcz43_0
    try clear hcz43_1
    try clear hcz43_2
    try clear hcz43_3
    try clear hcz43_4
    try clear hcz46_0
    try clear hcz46_1
    try clear hcz46_2
    try clear hcz46_3
    try clear hcz46_4
    try clear hcz51_0
    try clear hcz51_1
    try clear hcz51_2
    try clear hcz51_3
    try clear hcz51_4
    try clear hcz54_0
    try clear hcz54_1
    try clear hcz54_2
    try clear hcz54_3
    try clear hcz54_4
    try clear hcz69_0
    try clear hcz69_1
    try clear hcz69_2
    try clear hcz69_3
    try clear hcz69_4
    try clear hcz6_0
    try clear hcz6_1
    try clear hcz6_2
    try clear hcz6_3
    try clear hcz6_4
    try clear hcz77_0
    try clear hcz77_1
    try clear hcz77_2
    try clear hcz77_3
    try clear hcz77_4
    try clear hcz80_0
    try clear hcz80_1
    try clear hcz80_2
    try clear hcz80_3
    try clear hcz80_4
    try clear hcz85_0
    try clear hcz85_1
    try clear hcz85_2
    try clear hcz85_3
    try clear hcz85_4
    try clear hcz88_0
    try clear hcz88_1
    try clear hcz88_2
    try clear hcz88_3
    try clear hcz88_4
    try clear hfz14_0
    try clear hfz14_1
    try clear hfz14_2
    try clear hfz14_3
    try clear hfz14_4
    try clear hfz16_0
    try clear hfz16_1
    try clear hfz16_2
    try clear hfz16_3
    try clear hfz16_4
    try clear hfz22_0
    try clear hfz22_1
    try clear hfz22_2
    try clear hfz22_3
    try clear hfz22_4
    try clear hfz24_0
    try clear hfz24_1
    try clear hfz24_2
    try clear hfz24_3
    try clear hfz24_4
    try clear hfz29_0
    try clear hfz29_1
    try clear hfz29_2
    try clear hfz29_3
    try clear hfz29_4
    try clear hfz36_0
    try clear hfz36_1
    try clear hfz36_2
    try clear hfz36_3
    try clear hfz36_4
    try clear hfz43_0
    try clear hfz43_1
    try clear hfz43_2
    try clear hfz43_3
    try clear hfz43_4
    try clear hfz46_0
    try clear hfz46_1
    try clear hfz46_2
    try clear hfz46_3
    try clear hfz46_4
    try clear hfz51_0
    try clear hfz51_1
    try clear hfz51_2
    try clear hfz51_3
    try clear hfz51_4
    try clear hfz54_0
    try clear hfz54_1
    try clear hfz54_2
    try clear hfz54_3
    try clear hfz54_4
    try clear hfz69_0
    try clear hfz69_1
    try clear hfz69_2
    try clear hfz69_3
    try clear hfz69_4
    try clear hfz6_0
    try clear hfz6_1
    try clear hfz6_2
    try clear hfz6_3
    try clear hfz6_4
    try clear hfz77_0
    try clear hfz77_1
    try clear hfz77_2
    try clear hfz77_3
    try clear hfz77_4
    try clear hfz80_0
    try clear hfz80_1
    try clear hfz80_2
    try clear hfz80_3
    try clear hfz80_4
    try clear hfz85_0
    try clear hfz85_1
    try clear hfz85_2
    try clear hfz85_3
    try clear hfz85_4
    try clear hfz88_0
    try clear hfz88_1
    try clear hfz88_2
    try clear hfz88_3
    try clear hfz88_4
    try clear p2
    obtain ⟨kq, x65_60, rfl, HA, HJ60, HO_251002, HO_259002, HO_268002, BK233, BK250, BK258, BK267, HB⟩ := hcut
    have hl259002_60 := (Kd.R_reads' HO_259002.out).1
    rw [hl259002_60] at HO_259002
    (try simp only [hl259002_60])
    (try simp only [hl259002_60] at BK233)
    (try simp only [hl259002_60] at BK250)
    (try simp only [hl259002_60] at BK258)
    (try simp only [hl259002_60] at BK267)
    (try simp only [hl259002_60] at HO_251002)
    (try simp only [hl259002_60] at HO_268002)
    cases kq with
    | zero => exact absurd HA.out (by simp [laws_FnExactFlyShift.j1])
    | succ kj60 =>
     have H := HA.out
     clear HA
     simp only [laws_FnExactFlyShift.j1] at H
     by_cases c90 : x65_60 = true
     ·subst c90
      have H1 : (some false) = some r := by rw [if_pos rfl] at H; exact H
      clear H
      have H := H1
      clear H1
      obtain rfl := Option.some.inj H
      go_wp2
      go_ret
      exact ⟨ze, by repeat (first | (with_reducible first | exact HB.out | apply below_alloc | apply pw_below_drewN | apply below_drew1 | refine below_set ?_ GE233.out | refine below_set ?_ GE250.out | refine below_set ?_ GE258.out | refine below_set ?_ GE267.out) | exact HB.out)⟩
     replace c90 := Bool.eq_false_iff.mpr c90
     subst c90
     have H1 : ((laws_markFlyPath.f kj60 t259 t260 t261 t264 t265 1).bind fun bt280 => ((laws_heldFlyPath.f kj60 t259 t260 bt280.2 t264 t265 1).bind fun t282 => (if t282 < 0 then (some false) else (if t282 = bt280.1 then ((laws_toFlyPath.f kj60 a0_0 a0_1 l0_2 a0_3 a0_4).bind fun bt283 => ((impl_FlyShift.f kj60 bt283.1 bt283.2.1 bt283.2.2.1 bt283.2.2.2.1 bt283.2.2.2.2 a1).bind fun bt290 => ((laws_eqFlyPath.f kj60 bt290.1 bt290.2.1 bt290.2.2.1 bt290.2.2.2.1 bt290.2.2.2.2.1 t242 t243 t244 t247 t248).bind fun t299 => (if t299 = true then (laws_FnExactFlyShift.j2 kj60 bt280.1 (bt290.2.2.2.2.2 != t249) t259 t260 bt280.2 t264 t265) else (laws_FnExactFlyShift.j2 kj60 bt280.1 true t259 t260 bt280.2 t264 t265))))) else (some false))))) = some r := by rw [if_neg (show ¬ (false = true) by decide)] at H; exact H
     clear H
     have H := H1
     clear H1
     replace H := Option.bind_eq_some_iff.mp H
     obtain ⟨⟨t280, t281⟩, A910, H⟩ := H
     replace H : ((laws_heldFlyPath.f kj60 t259 t260 t281 t264 t265 1).bind fun t282 => (if t282 < 0 then (some false) else (if t282 = t280 then ((laws_toFlyPath.f kj60 a0_0 a0_1 l0_2 a0_3 a0_4).bind fun bt283 => ((impl_FlyShift.f kj60 bt283.1 bt283.2.1 bt283.2.2.1 bt283.2.2.2.1 bt283.2.2.2.2 a1).bind fun bt290 => ((laws_eqFlyPath.f kj60 bt290.1 bt290.2.1 bt290.2.2.1 bt290.2.2.2.1 bt290.2.2.2.2.1 t242 t243 t244 t247 t248).bind fun t299 => (if t299 = true then (laws_FnExactFlyShift.j2 kj60 t280 (bt290.2.2.2.2.2 != t249) t259 t260 t281 t264 t265) else (laws_FnExactFlyShift.j2 kj60 t280 true t259 t260 t281 t264 t265))))) else (some false)))) = some r := H
     have A91 := Aside0.mk A910
     clear A910
     replace H := Option.bind_eq_some_iff.mp H
     obtain ⟨t282, A920, H⟩ := H
     replace H : (if t282 < 0 then (some false) else (if t282 = t280 then ((laws_toFlyPath.f kj60 a0_0 a0_1 l0_2 a0_3 a0_4).bind fun bt283 => ((impl_FlyShift.f kj60 bt283.1 bt283.2.1 bt283.2.2.1 bt283.2.2.2.1 bt283.2.2.2.2 a1).bind fun bt290 => ((laws_eqFlyPath.f kj60 bt290.1 bt290.2.1 bt290.2.2.1 bt290.2.2.2.1 bt290.2.2.2.2.1 t242 t243 t244 t247 t248).bind fun t299 => (if t299 = true then (laws_FnExactFlyShift.j2 kj60 t280 (bt290.2.2.2.2.2 != t249) t259 t260 t281 t264 t265) else (laws_FnExactFlyShift.j2 kj60 t280 true t259 t260 t281 t264 t265))))) else (some false))) = some r := H
     have A92 := Aside0.mk A920
     clear A920
     by_cases c93 : t282 < 0
     ·rw [if_pos c93] at H
      have c93b0 : decide (t282 < 0) = true := decide_eq_true c93
      clear c93
      obtain rfl := Option.some.inj H
      have hnb94 := NB267_233.out
      have hnc94 := NB233_267.out
      have hnb95 := NB267_250.out
      have hnc95 := NB250_267.out
      have hnb96 := NB267_258.out
      have hnc96 := NB258_267.out
      obtain ⟨hcz97_0, hcz97_1, hcz97_2, hcz97_3, hcz97_4⟩ := zd5 BK267
      obtain ⟨hfz97_0, hfz97_1, hfz97_2, hfz97_3, hfz97_4⟩ := zn5 BK267
      go_wp2_with (first | ((with_reducible refine gate_callee (f := 22) rfl ?_); refine goesL_ (some 68) rfl rfl Try.func22 (by kernel_rfl) rfl #[.agg #[.int .i64 t259, .int .i64 t260, .slice Ao37 t261.length co37, .int .i64 t264, .int .i64 t265], .int .i64 1] rfl zl ?_; (with_reducible refine (laws_markFlyPath.calls kj60 t259 t260 (fun k_ => some k_ = (.slice Ao37 t261.length co37 : Value).ownBlock) (.slice Ao37 t261.length co37) t261 t264 t265 1 t280 t281 w _ ?side1 ?side2 A91.out).mono ?_); (case side1 => repeat (first | (with_reducible first | exact HB.out | apply below_alloc | apply pw_below_drewN | apply below_drew1 | refine below_set ?_ GE233.out | refine below_set ?_ GE250.out | refine below_set ?_ GE258.out | refine below_set ?_ GE267.out) | exact HB.out)); (case side2 => exact Kd.R_tight rfl HO_268002.out); rintro e w98 ⟨rfl, hy0, hb, hkp⟩; refine ⟨_, rfl, ?_⟩; have n0_ := Aside0.mk (Kd.R_mono (ok' := fun k_ => some k_ ≠ (.slice Ao30 t278.length co30 : Value).ownBlock ∧ some k_ ≠ (.slice Ao37 t261.length co37 : Value).ownBlock) (Kd.R_keptB (HO_251002.out) hkp (fun k_ hk_ hs_ => (hk_.2) hs_)) (fun k_ hk_ => ⟨hk_.1.1, hk_.1.2⟩)); have n1_ := Aside0.mk (Kd.R_mono (ok' := fun k_ => some k_ ≠ (.slice Ao23 t244.length co23 : Value).ownBlock ∧ some k_ ≠ (.slice Ao37 t261.length co37 : Value).ownBlock) (Kd.R_keptB (HO_259002.out) hkp (fun k_ hk_ hs_ => (hk_.2) hs_)) (fun k_ hk_ => ⟨hk_.1.1, hk_.1.2⟩)); have n2_ := Aside0.mk (Kd.R_reok rfl hy0 (fun k_ e_ => HO_268002.out.1 k_ e_)); have n3_ := Aside0.mk (blk_kept (zh BK233) hkp (fun hs_ => (fun e_ => (Kd.R_ne HO_268002.out BK233.out (by decide)) e_) hs_)); have n4_ := Aside0.mk (blk_kept (zh BK250) hkp (fun hs_ => (fun e_ => (Kd.R_ne HO_268002.out BK250.out (by decide)) e_) hs_)); have n5_ := Aside0.mk (blk_kept (zh BK258) hkp (fun hs_ => (fun e_ => (Kd.R_ne HO_268002.out BK258.out (by decide)) e_) hs_)); have n6_ := Aside0.mk (blk_kept (zh BK267) hkp (fun hs_ => (fun e_ => (Kd.R_ne HO_268002.out BK267.out (by decide)) e_) hs_)); have n7_ := Aside0.mk (hb); clear HO_251002 HO_259002 HO_268002 BK233 BK250 BK258 BK267 HB; revert n0_ n1_ n2_ n3_ n4_ n5_ n6_ n7_; intro HO_251002 HO_259002 HO_268002 BK233 BK250 BK258 BK267 HB; (try clear hb); (try clear hkp); (try clear hy0); obtain ⟨hcz99_0, hcz99_1, hcz99_2, hcz99_3, hcz99_4⟩ := zd5 BK267; obtain ⟨hfz99_0, hfz99_1, hfz99_2, hfz99_3, hfz99_4⟩ := zn5 BK267) | ((with_reducible refine gate_callee (f := 37) rfl ?_); refine goesL_ (some 71) rfl rfl Try.func37 (by kernel_rfl) rfl #[.agg #[.int .i64 t259, .int .i64 t260, .slice Ao37 t281.length co37, .int .i64 t264, .int .i64 t265], .int .i64 1] rfl (by (try simp only [List.map_toArray, List.map_cons, List.map_nil]); first | done | (rw [show t281.length = t261.length from (Kd.R_reads' HO_268002.out).1.symm] <;> rfl) | rfl | (simp only [List.length_drop, List.length_take]; rfl)) ?_; (with_reducible refine (laws_heldFlyPath.calls kj60 t259 t260 _ _ t281 t264 t265 1 t282 _ ?side1 ?side2 A92.out).mono ?_); (case side1 => repeat (first | exact (Kd.R_reads' HO_268002.out).2.2 | (with_reducible refine Kd.C_alloc ?_ _) | (with_reducible refine Kd.C_drewN ?_ _) | (with_reducible refine Kd.C_drew ?_))); (case side2 => rw [show t281.length = t261.length from (Kd.R_reads' HO_268002.out).1.symm]; exact (Kd.R_reads' HO_268002.out).2.1); rintro e w100 ⟨rfl, hb⟩; refine ⟨_, rfl, ?_⟩; have n0_ := Aside0.mk (Kd.R_below (zr HO_251002) hb); have n1_ := Aside0.mk (Kd.R_below (zr HO_259002) hb); have n2_ := Aside0.mk (Kd.R_below (zr HO_268002) hb); have n3_ := zb BK233 hb; have n4_ := zb BK250 hb; have n5_ := zb BK258 hb; have n6_ := zb BK267 hb; have n7_ := Aside0.mk (below_step (by repeat (first | (with_reducible first | exact HB.out | apply below_alloc | apply pw_below_drewN | apply below_drew1 | refine below_set ?_ GE233.out | refine below_set ?_ GE250.out | refine below_set ?_ GE258.out | refine below_set ?_ GE267.out) | exact HB.out)) hb); clear HO_251002 HO_259002 HO_268002 BK233 BK250 BK258 BK267 HB; revert n0_ n1_ n2_ n3_ n4_ n5_ n6_ n7_; intro HO_251002 HO_259002 HO_268002 BK233 BK250 BK258 BK267 HB; (try clear hb); (try clear hb2); (try clear hk); (try clear hi)))
      go_ret
      exact ⟨ze, by repeat (first | (with_reducible first | exact HB.out | apply below_alloc | apply pw_below_drewN | apply below_drew1 | refine below_set ?_ GE233.out | refine below_set ?_ GE250.out | refine below_set ?_ GE258.out | refine below_set ?_ GE267.out) | exact HB.out)⟩
     rw [if_neg c93] at H
     have c93b0 : decide (t282 < 0) = false := decide_eq_false c93
     clear c93
     by_cases c101 : t282 = t280
     rotate_left
     ·rw [if_neg c101] at H
      have c101b0 : (t282 == t280) = false := beq_eq_false_iff_ne.mpr c101
      have c101b1 : (t282 != t280) = true := bne_iff_ne.mpr c101
      obtain rfl := Option.some.inj H
      have hnb169 := NB267_233.out
      have hnc169 := NB233_267.out
      have hnb170 := NB267_250.out
      have hnc170 := NB250_267.out
      have hnb171 := NB267_258.out
      have hnc171 := NB258_267.out
      obtain ⟨hcz172_0, hcz172_1, hcz172_2, hcz172_3, hcz172_4⟩ := zd5 BK267
      obtain ⟨hfz172_0, hfz172_1, hfz172_2, hfz172_3, hfz172_4⟩ := zn5 BK267
      go_wp2_with (first | ((with_reducible refine gate_callee (f := 22) rfl ?_); refine goesL_ (some 68) rfl rfl Try.func22 (by kernel_rfl) rfl #[.agg #[.int .i64 t259, .int .i64 t260, .slice Ao37 t261.length co37, .int .i64 t264, .int .i64 t265], .int .i64 1] rfl zl ?_; (with_reducible refine (laws_markFlyPath.calls kj60 t259 t260 (fun k_ => some k_ = (.slice Ao37 t261.length co37 : Value).ownBlock) (.slice Ao37 t261.length co37) t261 t264 t265 1 t280 t281 w _ ?side1 ?side2 A91.out).mono ?_); (case side1 => repeat (first | (with_reducible first | exact HB.out | apply below_alloc | apply pw_below_drewN | apply below_drew1 | refine below_set ?_ GE233.out | refine below_set ?_ GE250.out | refine below_set ?_ GE258.out | refine below_set ?_ GE267.out) | exact HB.out)); (case side2 => exact Kd.R_tight rfl HO_268002.out); rintro e w173 ⟨rfl, hy0, hb, hkp⟩; refine ⟨_, rfl, ?_⟩; have n0_ := Aside0.mk (Kd.R_mono (ok' := fun k_ => some k_ ≠ (.slice Ao30 t278.length co30 : Value).ownBlock ∧ some k_ ≠ (.slice Ao37 t261.length co37 : Value).ownBlock) (Kd.R_keptB (HO_251002.out) hkp (fun k_ hk_ hs_ => (hk_.2) hs_)) (fun k_ hk_ => ⟨hk_.1.1, hk_.1.2⟩)); have n1_ := Aside0.mk (Kd.R_mono (ok' := fun k_ => some k_ ≠ (.slice Ao23 t244.length co23 : Value).ownBlock ∧ some k_ ≠ (.slice Ao37 t261.length co37 : Value).ownBlock) (Kd.R_keptB (HO_259002.out) hkp (fun k_ hk_ hs_ => (hk_.2) hs_)) (fun k_ hk_ => ⟨hk_.1.1, hk_.1.2⟩)); have n2_ := Aside0.mk (Kd.R_reok rfl hy0 (fun k_ e_ => HO_268002.out.1 k_ e_)); have n3_ := Aside0.mk (blk_kept (zh BK233) hkp (fun hs_ => (fun e_ => (Kd.R_ne HO_268002.out BK233.out (by decide)) e_) hs_)); have n4_ := Aside0.mk (blk_kept (zh BK250) hkp (fun hs_ => (fun e_ => (Kd.R_ne HO_268002.out BK250.out (by decide)) e_) hs_)); have n5_ := Aside0.mk (blk_kept (zh BK258) hkp (fun hs_ => (fun e_ => (Kd.R_ne HO_268002.out BK258.out (by decide)) e_) hs_)); have n6_ := Aside0.mk (blk_kept (zh BK267) hkp (fun hs_ => (fun e_ => (Kd.R_ne HO_268002.out BK267.out (by decide)) e_) hs_)); have n7_ := Aside0.mk (hb); clear HO_251002 HO_259002 HO_268002 BK233 BK250 BK258 BK267 HB; revert n0_ n1_ n2_ n3_ n4_ n5_ n6_ n7_; intro HO_251002 HO_259002 HO_268002 BK233 BK250 BK258 BK267 HB; (try clear hb); (try clear hkp); (try clear hy0); obtain ⟨hcz174_0, hcz174_1, hcz174_2, hcz174_3, hcz174_4⟩ := zd5 BK267; obtain ⟨hfz174_0, hfz174_1, hfz174_2, hfz174_3, hfz174_4⟩ := zn5 BK267) | ((with_reducible refine gate_callee (f := 37) rfl ?_); refine goesL_ (some 71) rfl rfl Try.func37 (by kernel_rfl) rfl #[.agg #[.int .i64 t259, .int .i64 t260, .slice Ao37 t281.length co37, .int .i64 t264, .int .i64 t265], .int .i64 1] rfl (by (try simp only [List.map_toArray, List.map_cons, List.map_nil]); first | done | (rw [show t281.length = t261.length from (Kd.R_reads' HO_268002.out).1.symm] <;> rfl) | rfl | (simp only [List.length_drop, List.length_take]; rfl)) ?_; (with_reducible refine (laws_heldFlyPath.calls kj60 t259 t260 _ _ t281 t264 t265 1 t282 _ ?side1 ?side2 A92.out).mono ?_); (case side1 => repeat (first | exact (Kd.R_reads' HO_268002.out).2.2 | (with_reducible refine Kd.C_alloc ?_ _) | (with_reducible refine Kd.C_drewN ?_ _) | (with_reducible refine Kd.C_drew ?_))); (case side2 => rw [show t281.length = t261.length from (Kd.R_reads' HO_268002.out).1.symm]; exact (Kd.R_reads' HO_268002.out).2.1); rintro e w175 ⟨rfl, hb⟩; refine ⟨_, rfl, ?_⟩; have n0_ := Aside0.mk (Kd.R_below (zr HO_251002) hb); have n1_ := Aside0.mk (Kd.R_below (zr HO_259002) hb); have n2_ := Aside0.mk (Kd.R_below (zr HO_268002) hb); have n3_ := zb BK233 hb; have n4_ := zb BK250 hb; have n5_ := zb BK258 hb; have n6_ := zb BK267 hb; have n7_ := Aside0.mk (below_step (by repeat (first | (with_reducible first | exact HB.out | apply below_alloc | apply pw_below_drewN | apply below_drew1 | refine below_set ?_ GE233.out | refine below_set ?_ GE250.out | refine below_set ?_ GE258.out | refine below_set ?_ GE267.out) | exact HB.out)) hb); clear HO_251002 HO_259002 HO_268002 BK233 BK250 BK258 BK267 HB; revert n0_ n1_ n2_ n3_ n4_ n5_ n6_ n7_; intro HO_251002 HO_259002 HO_268002 BK233 BK250 BK258 BK267 HB; (try clear hb); (try clear hb2); (try clear hk); (try clear hi)))
      go_ret
      exact ⟨ze, by repeat (first | (with_reducible first | exact HB.out | apply below_alloc | apply pw_below_drewN | apply below_drew1 | refine below_set ?_ GE233.out | refine below_set ?_ GE250.out | refine below_set ?_ GE258.out | refine below_set ?_ GE267.out) | exact HB.out)⟩
     rw [if_pos c101] at H
     have c101b0 : (t282 == t280) = true := beq_iff_eq.mpr c101
     have c101b1 : (t282 != t280) = false := bne_eq_false_iff_eq.mpr c101
     clear c101
     replace H := Option.bind_eq_some_iff.mp H
     obtain ⟨⟨t283, t284, t285, t288, t289⟩, A1020, H⟩ := H
     replace H : ((impl_FlyShift.f kj60 t283 t284 t285 t288 t289 a1).bind fun bt290 => ((laws_eqFlyPath.f kj60 bt290.1 bt290.2.1 bt290.2.2.1 bt290.2.2.2.1 bt290.2.2.2.2.1 t242 t243 t244 t247 t248).bind fun t299 => (if t299 = true then (laws_FnExactFlyShift.j2 kj60 t280 (bt290.2.2.2.2.2 != t249) t259 t260 t281 t264 t265) else (laws_FnExactFlyShift.j2 kj60 t280 true t259 t260 t281 t264 t265)))) = some r := H
     have A102 := Aside0.mk A1020
     clear A1020
     replace H := Option.bind_eq_some_iff.mp H
     obtain ⟨⟨t290, t291, t292, t295, t296, t297⟩, A1030, H⟩ := H
     replace H : ((laws_eqFlyPath.f kj60 t290 t291 t292 t295 t296 t242 t243 t244 t247 t248).bind fun t299 => (if t299 = true then (laws_FnExactFlyShift.j2 kj60 t280 (t297 != t249) t259 t260 t281 t264 t265) else (laws_FnExactFlyShift.j2 kj60 t280 true t259 t260 t281 t264 t265))) = some r := H
     have A103 := Aside0.mk A1030
     clear A1030
     have HC104 := Aside0.mk H
     clear H
     have hnb105 := NB267_233.out
     have hnc105 := NB233_267.out
     have hnb106 := NB267_250.out
     have hnc106 := NB250_267.out
     have hnb107 := NB267_258.out
     have hnc107 := NB258_267.out
     obtain ⟨hcz108_0, hcz108_1, hcz108_2, hcz108_3, hcz108_4⟩ := zd5 BK267
     obtain ⟨hfz108_0, hfz108_1, hfz108_2, hfz108_3, hfz108_4⟩ := zn5 BK267
     go_upto_region 25 with (first | ((with_reducible refine gate_callee (f := 22) rfl ?_); refine goesL_ (some 68) rfl rfl Try.func22 (by kernel_rfl) rfl #[.agg #[.int .i64 t259, .int .i64 t260, .slice Ao37 t261.length co37, .int .i64 t264, .int .i64 t265], .int .i64 1] rfl zl ?_; (with_reducible refine (laws_markFlyPath.calls kj60 t259 t260 (fun k_ => some k_ = (.slice Ao37 t261.length co37 : Value).ownBlock) (.slice Ao37 t261.length co37) t261 t264 t265 1 t280 t281 w _ ?side1 ?side2 A91.out).mono ?_); (case side1 => repeat (first | (with_reducible first | exact HB.out | apply below_alloc | apply pw_below_drewN | apply below_drew1 | refine below_set ?_ GE233.out | refine below_set ?_ GE250.out | refine below_set ?_ GE258.out | refine below_set ?_ GE267.out) | exact HB.out)); (case side2 => exact Kd.R_tight rfl HO_268002.out); rintro e w109 ⟨rfl, hy0, hb, hkp⟩; refine ⟨_, rfl, ?_⟩; have n0_ := Aside0.mk (Kd.R_mono (ok' := fun k_ => some k_ ≠ (.slice Ao30 t278.length co30 : Value).ownBlock ∧ some k_ ≠ (.slice Ao37 t261.length co37 : Value).ownBlock) (Kd.R_keptB (HO_251002.out) hkp (fun k_ hk_ hs_ => (hk_.2) hs_)) (fun k_ hk_ => ⟨hk_.1.1, hk_.1.2⟩)); have n1_ := Aside0.mk (Kd.R_mono (ok' := fun k_ => some k_ ≠ (.slice Ao23 t244.length co23 : Value).ownBlock ∧ some k_ ≠ (.slice Ao37 t261.length co37 : Value).ownBlock) (Kd.R_keptB (HO_259002.out) hkp (fun k_ hk_ hs_ => (hk_.2) hs_)) (fun k_ hk_ => ⟨hk_.1.1, hk_.1.2⟩)); have n2_ := Aside0.mk (Kd.R_reok rfl hy0 (fun k_ e_ => HO_268002.out.1 k_ e_)); have n3_ := Aside0.mk (blk_kept (zh BK233) hkp (fun hs_ => (fun e_ => (Kd.R_ne HO_268002.out BK233.out (by decide)) e_) hs_)); have n4_ := Aside0.mk (blk_kept (zh BK250) hkp (fun hs_ => (fun e_ => (Kd.R_ne HO_268002.out BK250.out (by decide)) e_) hs_)); have n5_ := Aside0.mk (blk_kept (zh BK258) hkp (fun hs_ => (fun e_ => (Kd.R_ne HO_268002.out BK258.out (by decide)) e_) hs_)); have n6_ := Aside0.mk (blk_kept (zh BK267) hkp (fun hs_ => (fun e_ => (Kd.R_ne HO_268002.out BK267.out (by decide)) e_) hs_)); have n7_ := Aside0.mk (hb); clear HO_251002 HO_259002 HO_268002 BK233 BK250 BK258 BK267 HB; revert n0_ n1_ n2_ n3_ n4_ n5_ n6_ n7_; intro HO_251002 HO_259002 HO_268002 BK233 BK250 BK258 BK267 HB; (try clear hb); (try clear hkp); (try clear hy0); obtain ⟨hcz110_0, hcz110_1, hcz110_2, hcz110_3, hcz110_4⟩ := zd5 BK267; obtain ⟨hfz110_0, hfz110_1, hfz110_2, hfz110_3, hfz110_4⟩ := zn5 BK267) | ((with_reducible refine gate_callee (f := 37) rfl ?_); refine goesL_ (some 71) rfl rfl Try.func37 (by kernel_rfl) rfl #[.agg #[.int .i64 t259, .int .i64 t260, .slice Ao37 t281.length co37, .int .i64 t264, .int .i64 t265], .int .i64 1] rfl (by (try simp only [List.map_toArray, List.map_cons, List.map_nil]); first | done | (rw [show t281.length = t261.length from (Kd.R_reads' HO_268002.out).1.symm] <;> rfl) | rfl | (simp only [List.length_drop, List.length_take]; rfl)) ?_; (with_reducible refine (laws_heldFlyPath.calls kj60 t259 t260 _ _ t281 t264 t265 1 t282 _ ?side1 ?side2 A92.out).mono ?_); (case side1 => repeat (first | exact (Kd.R_reads' HO_268002.out).2.2 | (with_reducible refine Kd.C_alloc ?_ _) | (with_reducible refine Kd.C_drewN ?_ _) | (with_reducible refine Kd.C_drew ?_))); (case side2 => rw [show t281.length = t261.length from (Kd.R_reads' HO_268002.out).1.symm]; exact (Kd.R_reads' HO_268002.out).2.1); rintro e w111 ⟨rfl, hb⟩; refine ⟨_, rfl, ?_⟩; have n0_ := Aside0.mk (Kd.R_below (zr HO_251002) hb); have n1_ := Aside0.mk (Kd.R_below (zr HO_259002) hb); have n2_ := Aside0.mk (Kd.R_below (zr HO_268002) hb); have n3_ := zb BK233 hb; have n4_ := zb BK250 hb; have n5_ := zb BK258 hb; have n6_ := zb BK267 hb; have n7_ := Aside0.mk (below_step (by repeat (first | (with_reducible first | exact HB.out | apply below_alloc | apply pw_below_drewN | apply below_drew1 | refine below_set ?_ GE233.out | refine below_set ?_ GE250.out | refine below_set ?_ GE258.out | refine below_set ?_ GE267.out) | exact HB.out)) hb); clear HO_251002 HO_259002 HO_268002 BK233 BK250 BK258 BK267 HB; revert n0_ n1_ n2_ n3_ n4_ n5_ n6_ n7_; intro HO_251002 HO_259002 HO_268002 BK233 BK250 BK258 BK267 HB; (try clear hb); (try clear hb2); (try clear hk); (try clear hi); have hnb112 := NB233_250.out; have hnc112 := NB250_233.out; have hnb113 := NB233_258.out; have hnc113 := NB258_233.out; obtain ⟨hcz114_0, hcz114_1, hcz114_2, hcz114_3, hcz114_4⟩ := zd5 BK233; obtain ⟨hfz114_0, hfz114_1, hfz114_2, hfz114_3, hfz114_4⟩ := zn5 BK233) | ((with_reducible refine gate_callee (f := 17) rfl ?_); refine goesL_ (some 79) rfl rfl Try.func17 (by kernel_rfl) rfl #[.agg #[.int .i64 a0_0, .int .i64 a0_1, .slice A0_2 l0_2.length c0_2, .int .i64 a0_3, .int .i64 a0_4]] rfl zl ?_; (with_reducible refine (laws_toFlyPath.calls kj60 a0_0 a0_1 _ _ l0_2 a0_3 a0_4 t283 t284 t285 t288 t289 _ ?side1 ?side2 A102.out).mono ?_); (case side1 => exact zC HR0_2 HB); (case side2 => exact HC0_2.out); rintro e w115 ⟨v286, rfl, ho0, hb⟩; refine ⟨_, rfl, ?_⟩; have n0_ := Aside0.mk (Kd.R_elder' (zr HO_251002) (Kd.R_base ho0) hb); have n1_ := Aside0.mk (Kd.R_elder' (zr HO_259002) (Kd.R_base ho0) hb); have n2_ := Aside0.mk (Kd.R_elder' (zr HO_268002) (Kd.R_base ho0) hb); have n3_ := Aside0.mk (Kd.R_lower (Kd.R_new' (Kd.R_new' (Kd.R_new' ho0 (Kd.R_lt (zr HO_251002))) (Kd.R_lt (zr HO_259002))) (Kd.R_lt (zr HO_268002))) (below_size (by repeat (first | (with_reducible first | exact HB.out | apply below_alloc | apply pw_below_drewN | apply below_drew1 | refine below_set ?_ GE233.out | refine below_set ?_ GE250.out | refine below_set ?_ GE258.out | refine below_set ?_ GE267.out) | exact HB.out)))); have n4_ := zb BK233 hb; have n5_ := zb BK250 hb; have n6_ := zb BK258 hb; have n7_ := zb BK267 hb; have n8_ := Aside0.mk (below_step (by repeat (first | (with_reducible first | exact HB.out | apply below_alloc | apply pw_below_drewN | apply below_drew1 | refine below_set ?_ GE233.out | refine below_set ?_ GE250.out | refine below_set ?_ GE258.out | refine below_set ?_ GE267.out) | exact HB.out)) hb); clear HO_251002; clear HO_259002; clear HO_268002; clear BK233; clear BK250; clear BK258; clear BK267; clear HB; have HO_251002 := n0_; have HO_259002 := n1_; have HO_268002 := n2_; have HO287 := n3_; have BK233 := n4_; have BK250 := n5_; have BK258 := n6_; have BK267 := n7_; have HB := n8_; clear n0_ n1_ n2_ n3_ n4_ n5_ n6_ n7_ n8_; (try clear hb); (try clear hb2); (try clear hk); (try clear hi); (try clear ho0); obtain ⟨Ao116, co116, eo116⟩ := Kd.R_slice HO287.out; subst eo116) | ((with_reducible refine gate_callee (f := 36) rfl ?_); refine goesL_ (some 81) rfl rfl Try.func36 (by kernel_rfl) rfl #[.agg #[.int .i64 t283, .int .i64 t284, .slice Ao116 t285.length co116, .int .i64 t288, .int .i64 t289], .int .i64 a1] rfl zl ?_; (with_reducible refine (impl_FlyShift.calls kj60 t283 t284 _ _ t285 t288 t289 a1 t290 t291 t292 t295 t296 t297 _ ?side1 ?side2 A103.out).mono ?_); (case side1 => repeat (first | exact (Kd.R_reads' HO287.out).2.2 | (with_reducible refine Kd.C_alloc ?_ _) | (with_reducible refine Kd.C_drewN ?_ _) | (with_reducible refine Kd.C_drew ?_))); (case side2 => exact (Kd.R_reads' HO287.out).2.1); rintro e w117 ⟨v293, rfl, ho0, hb⟩; refine ⟨_, rfl, ?_⟩; have n0_ := Aside0.mk (Kd.R_elder' (zr HO_251002) (Kd.R_base ho0) hb); have n1_ := Aside0.mk (Kd.R_elder' (zr HO_259002) (Kd.R_base ho0) hb); have n2_ := Aside0.mk (Kd.R_elder' (zr HO_268002) (Kd.R_base ho0) hb); have n3_ := Aside0.mk (Kd.R_elder' (zr HO287) (Kd.R_base ho0) hb); have n4_ := Aside0.mk (Kd.R_lower (Kd.R_new' (Kd.R_new' (Kd.R_new' (Kd.R_new' ho0 (Kd.R_lt (zr HO_251002))) (Kd.R_lt (zr HO_259002))) (Kd.R_lt (zr HO_268002))) (Kd.R_lt (zr HO287))) (below_size (by repeat (first | (with_reducible first | exact HB.out | apply below_alloc | apply pw_below_drewN | apply below_drew1 | refine below_set ?_ GE233.out | refine below_set ?_ GE250.out | refine below_set ?_ GE258.out | refine below_set ?_ GE267.out) | exact HB.out)))); have n5_ := zb BK233 hb; have n6_ := zb BK250 hb; have n7_ := zb BK258 hb; have n8_ := zb BK267 hb; have n9_ := Aside0.mk (below_step (by repeat (first | (with_reducible first | exact HB.out | apply below_alloc | apply pw_below_drewN | apply below_drew1 | refine below_set ?_ GE233.out | refine below_set ?_ GE250.out | refine below_set ?_ GE258.out | refine below_set ?_ GE267.out) | exact HB.out)) hb); clear HO_251002; clear HO_259002; clear HO_268002; clear HO287; clear BK233; clear BK250; clear BK258; clear BK267; clear HB; have HO_251002 := n0_; have HO_259002 := n1_; have HO_268002 := n2_; have HO287 := n3_; have HO294 := n4_; have BK233 := n5_; have BK250 := n6_; have BK258 := n7_; have BK267 := n8_; have HB := n9_; clear n0_ n1_ n2_ n3_ n4_ n5_ n6_ n7_ n8_ n9_; (try clear hb); (try clear hb2); (try clear hk); (try clear hi); (try clear ho0)) | ((with_reducible refine gate_dst (N := 14) rfl ?_); refine box_event (by rfl) (N := 14) (by rfl) (cs := #[.int .i64 0, .int .i64 0, .slice none 0 0, .int .i64 0, .int .i64 0]) (t := 34) zg ?_; intro gb298 hg w118 hbox hb; have n0_ := Aside0.mk (Kd.R_below (zr HO_251002) hb); have n1_ := Aside0.mk (Kd.R_below (zr HO_259002) hb); have n2_ := Aside0.mk (Kd.R_below (zr HO_268002) hb); have n3_ := Aside0.mk (Kd.R_below (zr HO287) hb); have n4_ := Aside0.mk (Kd.R_below (zr HO294) hb); have n5_ := zb BK233 hb; have n6_ := zb BK250 hb; have n7_ := zb BK258 hb; have n8_ := zb BK267 hb; have n9_ := Aside0.mk (below_step (by repeat (first | (with_reducible first | exact HB.out | apply below_alloc | apply pw_below_drewN | apply below_drew1 | refine below_set ?_ GE233.out | refine below_set ?_ GE250.out | refine below_set ?_ GE258.out | refine below_set ?_ GE267.out) | exact HB.out)) hb); have n10_ := Aside0.mk (hbox); have n11_ := Aside0.mk ((by rw [hg]; exact (below_size (by repeat (first | (with_reducible first | exact HB.out | apply below_alloc | apply pw_below_drewN | apply below_drew1 | refine below_set ?_ GE233.out | refine below_set ?_ GE250.out | refine below_set ?_ GE258.out | refine below_set ?_ GE267.out) | exact HB.out))) : w.heap.size ≤ gb298)); have n12_ := Aside0.mk ((by rw [hg]; exact (below_size (by repeat (first | (with_reducible first | exact HB.out | apply below_alloc | apply pw_below_drewN | apply below_drew1 | refine below_set ?_ GE233.out | refine below_set ?_ GE250.out | refine below_set ?_ GE258.out | refine below_set ?_ GE267.out) | exact HB.out))) : w.heap.size ≤ gb298)); have n13_ := Aside0.mk ((by rw [hg]; exact Nat.ne_of_lt (blk_lt (g := gb233) (o := .cells #[.int .i64 a0_0, .int .i64 a0_1, .slice A0_2 l0_2.length c0_2, .int .i64 a0_3, .int .i64 a0_4] 26 (0, 0)) (zh BK233)) : gb233 ≠ gb298)); have n14_ := Aside0.mk ((by rw [hg]; exact Nat.ne_of_gt (blk_lt (g := gb233) (o := .cells #[.int .i64 a0_0, .int .i64 a0_1, .slice A0_2 l0_2.length c0_2, .int .i64 a0_3, .int .i64 a0_4] 26 (0, 0)) (zh BK233)) : gb298 ≠ gb233)); have n15_ := Aside0.mk ((by rw [hg]; exact Nat.ne_of_lt (blk_lt (g := gb250) (o := .cells #[.int .i64 t242, .int .i64 t243, .slice Ao23 t244.length co23, .int .i64 t247, .int .i64 t248] 34 (0, 0)) (zh BK250)) : gb250 ≠ gb298)); have n16_ := Aside0.mk ((by rw [hg]; exact Nat.ne_of_gt (blk_lt (g := gb250) (o := .cells #[.int .i64 t242, .int .i64 t243, .slice Ao23 t244.length co23, .int .i64 t247, .int .i64 t248] 34 (0, 0)) (zh BK250)) : gb298 ≠ gb250)); have n17_ := Aside0.mk ((by rw [hg]; exact Nat.ne_of_lt (blk_lt (g := gb258) (o := .cells #[.int .i64 t251, .int .i64 t252, .slice Ao30 t278.length co30, .int .i64 t256, .int .i64 t257] 34 (0, 0)) (zh BK258)) : gb258 ≠ gb298)); have n18_ := Aside0.mk ((by rw [hg]; exact Nat.ne_of_gt (blk_lt (g := gb258) (o := .cells #[.int .i64 t251, .int .i64 t252, .slice Ao30 t278.length co30, .int .i64 t256, .int .i64 t257] 34 (0, 0)) (zh BK258)) : gb298 ≠ gb258)); have n19_ := Aside0.mk ((by rw [hg]; exact Nat.ne_of_lt (blk_lt (g := gb267) (o := .cells #[.int .i64 t259, .int .i64 t260, .slice Ao37 t261.length co37, .int .i64 t264, .int .i64 t265] 34 (0, 0)) (zh BK267)) : gb267 ≠ gb298)); have n20_ := Aside0.mk ((by rw [hg]; exact Nat.ne_of_gt (blk_lt (g := gb267) (o := .cells #[.int .i64 t259, .int .i64 t260, .slice Ao37 t261.length co37, .int .i64 t264, .int .i64 t265] 34 (0, 0)) (zh BK267)) : gb298 ≠ gb267)); clear HO_251002; clear HO_259002; clear HO_268002; clear HO287; clear HO294; clear BK233; clear BK250; clear BK258; clear BK267; clear HB; have HO_251002 := n0_; have HO_259002 := n1_; have HO_268002 := n2_; have HO287 := n3_; have HO294 := n4_; have BK233 := n5_; have BK250 := n6_; have BK258 := n7_; have BK267 := n8_; have HB := n9_; have BK298 := n10_; have GW298 := n11_; have GE298 := n12_; have NB233_298 := n13_; have NB298_233 := n14_; have NB250_298 := n15_; have NB298_250 := n16_; have NB258_298 := n17_; have NB298_258 := n18_; have NB267_298 := n19_; have NB298_267 := n20_; clear n0_ n1_ n2_ n3_ n4_ n5_ n6_ n7_ n8_ n9_ n10_ n11_ n12_ n13_ n14_ n15_ n16_ n17_ n18_ n19_ n20_; clear hb hbox hg; have hnb119 := NB298_233.out; have hnc119 := NB233_298.out; have hnb120 := NB298_250.out; have hnc120 := NB250_298.out; have hnb121 := NB298_258.out; have hnc121 := NB258_298.out; have hnb122 := NB298_267.out; have hnc122 := NB267_298.out; obtain ⟨hcz123_0, hcz123_1, hcz123_2, hcz123_3, hcz123_4⟩ := zd5 BK298; obtain ⟨hfz123_0, hfz123_1, hfz123_2, hfz123_3, hfz123_4⟩ := zn5 BK298; obtain ⟨Ao124, co124, eo124⟩ := Kd.R_slice HO294.out; subst eo124))
     (try simp only [Act.put, List.setIfInBounds_toArray, List.set_cons_zero, List.set_cons_succ])
     go_cut [92] (fun v92 wc => ∃ (kq : Nat) (x92_103 : Bool), v92 = .bool x92_103 ∧ Aside0 (laws_FnExactFlyShift.j2 kq t280 x92_103 t259 t260 t281 t264 t265 = some r) ∧ Aside0 (kq ≤ kj60) ∧ Aside0 (Kd.R k88 88 wc w.heap.size (fun k_ => some k_ ≠ ((.slice Ao30 t278.length co30) : Value).ownBlock ∧ some k_ ≠ ((.slice Ao37 t261.length co37) : Value).ownBlock ∧ some k_ ≠ ((.slice Ao124 t292.length co124) : Value).ownBlock) (.slice Ao23 t244.length co23) t244) ∧ Aside0 (Kd.R k88 88 wc w.heap.size (fun k_ => some k_ ≠ ((.slice Ao23 t244.length co23) : Value).ownBlock ∧ some k_ ≠ ((.slice Ao37 t261.length co37) : Value).ownBlock ∧ some k_ ≠ ((.slice Ao124 t292.length co124) : Value).ownBlock) (.slice Ao30 t278.length co30) t278) ∧ Aside0 (Kd.R k88 88 wc w.heap.size (fun k_ => some k_ ≠ ((.slice Ao23 t244.length co23) : Value).ownBlock ∧ some k_ ≠ ((.slice Ao30 t278.length co30) : Value).ownBlock ∧ some k_ ≠ ((.slice Ao124 t292.length co124) : Value).ownBlock) (.slice Ao37 t261.length co37) t281) ∧ Aside0 (Kd.R k88 88 wc w.heap.size (fun k_ => some k_ ≠ ((.slice Ao23 t244.length co23) : Value).ownBlock ∧ some k_ ≠ ((.slice Ao30 t278.length co30) : Value).ownBlock ∧ some k_ ≠ ((.slice Ao37 t261.length co37) : Value).ownBlock) (.slice Ao124 t292.length co124) t292) ∧ Aside0 (wc.heap[gb233]? = some (.cells #[.int .i64 a0_0, .int .i64 a0_1, (.slice A0_2 l0_2.length c0_2), .int .i64 a0_3, .int .i64 a0_4] 26 (0, 0))) ∧ Aside0 (wc.heap[gb250]? = some (.cells #[.int .i64 t242, .int .i64 t243, (.slice Ao23 t244.length co23), .int .i64 t247, .int .i64 t248] 34 (0, 0))) ∧ Aside0 (wc.heap[gb258]? = some (.cells #[.int .i64 t251, .int .i64 t252, (.slice Ao30 t278.length co30), .int .i64 t256, .int .i64 t257] 34 (0, 0))) ∧ Aside0 (wc.heap[gb267]? = some (.cells #[.int .i64 t259, .int .i64 t260, (.slice Ao37 t261.length co37), .int .i64 t264, .int .i64 t265] 34 (0, 0))) ∧ Aside0 (wc.heap[gb298]? = some (.cells #[.int .i64 t290, .int .i64 t291, (.slice Ao124 t292.length co124), .int .i64 t295, .int .i64 t296] 34 (0, 0))) ∧ Aside0 (Below w.heap.size w wc))
     case first =>
      have H := HC104.out
      clear HC104
      replace H := Option.bind_eq_some_iff.mp H
      obtain ⟨t299, A1250, H⟩ := H
      replace H : (if t299 = true then (laws_FnExactFlyShift.j2 kj60 t280 (t297 != t249) t259 t260 t281 t264 t265) else (laws_FnExactFlyShift.j2 kj60 t280 true t259 t260 t281 t264 t265)) = some r := H
      have A125 := Aside0.mk A1250
      clear A1250
      by_cases c126 : t299 = true
      ·subst c126
       have H1 : (laws_FnExactFlyShift.j2 kj60 t280 (t297 != t249) t259 t260 t281 t264 t265) = some r := by rw [if_pos rfl] at H; exact H
       clear H
       have H := H1
       clear H1
       have H' := Aside0.mk H
       clear H
       have hnb127 := NB298_233.out
       have hnc127 := NB233_298.out
       have hnb128 := NB298_250.out
       have hnc128 := NB250_298.out
       have hnb129 := NB298_258.out
       have hnc129 := NB258_298.out
       have hnb130 := NB298_267.out
       have hnc130 := NB267_298.out
       obtain ⟨hcz131_0, hcz131_1, hcz131_2, hcz131_3, hcz131_4⟩ := zd5 BK298
       obtain ⟨hfz131_0, hfz131_1, hfz131_2, hfz131_3, hfz131_4⟩ := zn5 BK298
       have hnb132 := NB250_233.out
       have hnc132 := NB233_250.out
       have hnb133 := NB250_258.out
       have hnc133 := NB258_250.out
       have hnb134 := NB250_267.out
       have hnc134 := NB267_250.out
       obtain ⟨hcz135_0, hcz135_1, hcz135_2, hcz135_3, hcz135_4⟩ := zd5 BK250
       obtain ⟨hfz135_0, hfz135_1, hfz135_2, hfz135_3, hfz135_4⟩ := zn5 BK250
       go_wp2_with (first | ((with_reducible refine gate_callee (f := 21) rfl ?_); refine goesL_ (some 86) rfl rfl Try.func21 (by kernel_rfl) rfl #[.agg #[.int .i64 t290, .int .i64 t291, .slice Ao124 t292.length co124, .int .i64 t295, .int .i64 t296], .agg #[.int .i64 t242, .int .i64 t243, .slice Ao23 t244.length co23, .int .i64 t247, .int .i64 t248]] rfl zl ?_; (with_reducible refine (laws_eqFlyPath.calls kj60 t290 t291 _ _ t292 t295 t296 t242 t243 _ _ t244 t247 t248 true _ ?side1 ?side2 ?side3 ?side4 A125.out).mono ?_); (case side1 => refine (Kd.R_reads' (e := 88) (base := w.heap.size) (ok := fun k_ => ((((True ∧ some k_ ≠ (.slice Ao23 t244.length co23 : Value).ownBlock) ∧ some k_ ≠ (.slice Ao30 t278.length co30 : Value).ownBlock) ∧ some k_ ≠ (.slice Ao37 t261.length co37 : Value).ownBlock) ∧ some k_ ≠ (.slice Ao116 t285.length co116 : Value).ownBlock)) (n := t292.length) (c := co124) ?_).2.2; exact (by (with_reducible repeat (first | apply Kd.R_alloc | apply Kd.R_drewN | apply Kd.R_drew)); exact (Kd.R_mono (Kd.R_far (p := ⟨gb298, 4, none⟩) (Kd.R_far (p := ⟨gb298, 3, none⟩) (Kd.R_far (p := ⟨gb298, 2, none⟩) (Kd.R_far (p := ⟨gb298, 1, none⟩) (Kd.R_far (p := ⟨gb298, 0, none⟩) (Kd.R_types HO294.out BK298.out (by decide)) (fun _ hk => hk.2) (.int .i64 t290)) (fun _ hk => hk.2) (.int .i64 t291)) (fun _ hk => hk.2) (.slice Ao124 t292.length co124)) (fun _ hk => hk.2) (.int .i64 t295)) (fun _ hk => hk.2) (.int .i64 t296)) (fun _ h_ => h_.1)))); (case side2 => exact (Kd.R_reads' HO294.out).2.1); (case side3 => refine (Kd.R_reads' (e := 88) (base := w.heap.size) (ok := fun k_ => (((some k_ ≠ (.slice Ao30 t278.length co30 : Value).ownBlock ∧ some k_ ≠ (.slice Ao37 t261.length co37 : Value).ownBlock) ∧ some k_ ≠ (.slice Ao116 t285.length co116 : Value).ownBlock) ∧ some k_ ≠ (.slice Ao124 t292.length co124 : Value).ownBlock)) (n := t244.length) (c := co23) ?_).2.2; exact (by (with_reducible repeat (first | apply Kd.R_alloc | apply Kd.R_drewN | apply Kd.R_drew)); exact (Kd.R_mono (Kd.R_far (p := ⟨gb298, 4, none⟩) (Kd.R_far (p := ⟨gb298, 3, none⟩) (Kd.R_far (p := ⟨gb298, 2, none⟩) (Kd.R_far (p := ⟨gb298, 1, none⟩) (Kd.R_far (p := ⟨gb298, 0, none⟩) (Kd.R_types HO_251002.out BK298.out (by decide)) (fun _ hk => hk.2) (.int .i64 t290)) (fun _ hk => hk.2) (.int .i64 t291)) (fun _ hk => hk.2) (.slice Ao124 t292.length co124)) (fun _ hk => hk.2) (.int .i64 t295)) (fun _ hk => hk.2) (.int .i64 t296)) (fun _ h_ => h_.1)))); (case side4 => exact (Kd.R_reads' HO_251002.out).2.1); rintro e w136 ⟨rfl, hb⟩; refine ⟨_, rfl, ?_⟩; have n0_ := Aside0.mk (Kd.R_below (by (with_reducible repeat (first | apply Kd.R_alloc | apply Kd.R_drewN | apply Kd.R_drew)); exact (Kd.R_mono (Kd.R_far (p := ⟨gb298, 4, none⟩) (Kd.R_far (p := ⟨gb298, 3, none⟩) (Kd.R_far (p := ⟨gb298, 2, none⟩) (Kd.R_far (p := ⟨gb298, 1, none⟩) (Kd.R_far (p := ⟨gb298, 0, none⟩) (Kd.R_types HO_251002.out BK298.out (by decide)) (fun _ hk => hk.2) (.int .i64 t290)) (fun _ hk => hk.2) (.int .i64 t291)) (fun _ hk => hk.2) (.slice Ao124 t292.length co124)) (fun _ hk => hk.2) (.int .i64 t295)) (fun _ hk => hk.2) (.int .i64 t296)) (fun _ h_ => h_.1))) hb); have n1_ := Aside0.mk (Kd.R_below (by (with_reducible repeat (first | apply Kd.R_alloc | apply Kd.R_drewN | apply Kd.R_drew)); exact (Kd.R_mono (Kd.R_far (p := ⟨gb298, 4, none⟩) (Kd.R_far (p := ⟨gb298, 3, none⟩) (Kd.R_far (p := ⟨gb298, 2, none⟩) (Kd.R_far (p := ⟨gb298, 1, none⟩) (Kd.R_far (p := ⟨gb298, 0, none⟩) (Kd.R_types HO_259002.out BK298.out (by decide)) (fun _ hk => hk.2) (.int .i64 t290)) (fun _ hk => hk.2) (.int .i64 t291)) (fun _ hk => hk.2) (.slice Ao124 t292.length co124)) (fun _ hk => hk.2) (.int .i64 t295)) (fun _ hk => hk.2) (.int .i64 t296)) (fun _ h_ => h_.1))) hb); have n2_ := Aside0.mk (Kd.R_below (by (with_reducible repeat (first | apply Kd.R_alloc | apply Kd.R_drewN | apply Kd.R_drew)); exact (Kd.R_mono (Kd.R_far (p := ⟨gb298, 4, none⟩) (Kd.R_far (p := ⟨gb298, 3, none⟩) (Kd.R_far (p := ⟨gb298, 2, none⟩) (Kd.R_far (p := ⟨gb298, 1, none⟩) (Kd.R_far (p := ⟨gb298, 0, none⟩) (Kd.R_types HO_268002.out BK298.out (by decide)) (fun _ hk => hk.2) (.int .i64 t290)) (fun _ hk => hk.2) (.int .i64 t291)) (fun _ hk => hk.2) (.slice Ao124 t292.length co124)) (fun _ hk => hk.2) (.int .i64 t295)) (fun _ hk => hk.2) (.int .i64 t296)) (fun _ h_ => h_.1))) hb); have n3_ := Aside0.mk (Kd.R_below (by (with_reducible repeat (first | apply Kd.R_alloc | apply Kd.R_drewN | apply Kd.R_drew)); exact (Kd.R_mono (Kd.R_far (p := ⟨gb298, 4, none⟩) (Kd.R_far (p := ⟨gb298, 3, none⟩) (Kd.R_far (p := ⟨gb298, 2, none⟩) (Kd.R_far (p := ⟨gb298, 1, none⟩) (Kd.R_far (p := ⟨gb298, 0, none⟩) (Kd.R_types HO287.out BK298.out (by decide)) (fun _ hk => hk.2) (.int .i64 t290)) (fun _ hk => hk.2) (.int .i64 t291)) (fun _ hk => hk.2) (.slice Ao124 t292.length co124)) (fun _ hk => hk.2) (.int .i64 t295)) (fun _ hk => hk.2) (.int .i64 t296)) (fun _ h_ => h_.1))) hb); have n4_ := Aside0.mk (Kd.R_below (by (with_reducible repeat (first | apply Kd.R_alloc | apply Kd.R_drewN | apply Kd.R_drew)); exact (Kd.R_mono (Kd.R_far (p := ⟨gb298, 4, none⟩) (Kd.R_far (p := ⟨gb298, 3, none⟩) (Kd.R_far (p := ⟨gb298, 2, none⟩) (Kd.R_far (p := ⟨gb298, 1, none⟩) (Kd.R_far (p := ⟨gb298, 0, none⟩) (Kd.R_types HO294.out BK298.out (by decide)) (fun _ hk => hk.2) (.int .i64 t290)) (fun _ hk => hk.2) (.int .i64 t291)) (fun _ hk => hk.2) (.slice Ao124 t292.length co124)) (fun _ hk => hk.2) (.int .i64 t295)) (fun _ hk => hk.2) (.int .i64 t296)) (fun _ h_ => h_.1))) hb); have n5_ := Aside0.mk (blk_below (g := gb233) (o := .cells #[.int .i64 a0_0, .int .i64 a0_1, .slice A0_2 l0_2.length c0_2, .int .i64 a0_3, .int .i64 a0_4] 26 (0, 0)) (by (with_reducible repeat (first | refine blk_drewN ?_ _ | refine blk_drew ?_ | refine blk_alloc ?_ _)); refine blk_far ?_ NB233_298.out _; (with_reducible repeat (first | refine blk_drewN ?_ _ | refine blk_drew ?_ | refine blk_alloc ?_ _)); refine blk_far ?_ NB233_298.out _; (with_reducible repeat (first | refine blk_drewN ?_ _ | refine blk_drew ?_ | refine blk_alloc ?_ _)); refine blk_far ?_ NB233_298.out _; (with_reducible repeat (first | refine blk_drewN ?_ _ | refine blk_drew ?_ | refine blk_alloc ?_ _)); refine blk_far ?_ NB233_298.out _; (with_reducible repeat (first | refine blk_drewN ?_ _ | refine blk_drew ?_ | refine blk_alloc ?_ _)); refine blk_far ?_ NB233_298.out _; (with_reducible repeat (first | refine blk_drewN ?_ _ | refine blk_drew ?_ | refine blk_alloc ?_ _)); exact BK233.out) hb); have n6_ := Aside0.mk (blk_below (g := gb250) (o := .cells #[.int .i64 t242, .int .i64 t243, .slice Ao23 t244.length co23, .int .i64 t247, .int .i64 t248] 34 (0, 0)) (by (with_reducible repeat (first | refine blk_drewN ?_ _ | refine blk_drew ?_ | refine blk_alloc ?_ _)); refine blk_far ?_ NB250_298.out _; (with_reducible repeat (first | refine blk_drewN ?_ _ | refine blk_drew ?_ | refine blk_alloc ?_ _)); refine blk_far ?_ NB250_298.out _; (with_reducible repeat (first | refine blk_drewN ?_ _ | refine blk_drew ?_ | refine blk_alloc ?_ _)); refine blk_far ?_ NB250_298.out _; (with_reducible repeat (first | refine blk_drewN ?_ _ | refine blk_drew ?_ | refine blk_alloc ?_ _)); refine blk_far ?_ NB250_298.out _; (with_reducible repeat (first | refine blk_drewN ?_ _ | refine blk_drew ?_ | refine blk_alloc ?_ _)); refine blk_far ?_ NB250_298.out _; (with_reducible repeat (first | refine blk_drewN ?_ _ | refine blk_drew ?_ | refine blk_alloc ?_ _)); exact BK250.out) hb); have n7_ := Aside0.mk (blk_below (g := gb258) (o := .cells #[.int .i64 t251, .int .i64 t252, .slice Ao30 t278.length co30, .int .i64 t256, .int .i64 t257] 34 (0, 0)) (by (with_reducible repeat (first | refine blk_drewN ?_ _ | refine blk_drew ?_ | refine blk_alloc ?_ _)); refine blk_far ?_ NB258_298.out _; (with_reducible repeat (first | refine blk_drewN ?_ _ | refine blk_drew ?_ | refine blk_alloc ?_ _)); refine blk_far ?_ NB258_298.out _; (with_reducible repeat (first | refine blk_drewN ?_ _ | refine blk_drew ?_ | refine blk_alloc ?_ _)); refine blk_far ?_ NB258_298.out _; (with_reducible repeat (first | refine blk_drewN ?_ _ | refine blk_drew ?_ | refine blk_alloc ?_ _)); refine blk_far ?_ NB258_298.out _; (with_reducible repeat (first | refine blk_drewN ?_ _ | refine blk_drew ?_ | refine blk_alloc ?_ _)); refine blk_far ?_ NB258_298.out _; (with_reducible repeat (first | refine blk_drewN ?_ _ | refine blk_drew ?_ | refine blk_alloc ?_ _)); exact BK258.out) hb); have n8_ := Aside0.mk (blk_below (g := gb267) (o := .cells #[.int .i64 t259, .int .i64 t260, .slice Ao37 t261.length co37, .int .i64 t264, .int .i64 t265] 34 (0, 0)) (by (with_reducible repeat (first | refine blk_drewN ?_ _ | refine blk_drew ?_ | refine blk_alloc ?_ _)); refine blk_far ?_ NB267_298.out _; (with_reducible repeat (first | refine blk_drewN ?_ _ | refine blk_drew ?_ | refine blk_alloc ?_ _)); refine blk_far ?_ NB267_298.out _; (with_reducible repeat (first | refine blk_drewN ?_ _ | refine blk_drew ?_ | refine blk_alloc ?_ _)); refine blk_far ?_ NB267_298.out _; (with_reducible repeat (first | refine blk_drewN ?_ _ | refine blk_drew ?_ | refine blk_alloc ?_ _)); refine blk_far ?_ NB267_298.out _; (with_reducible repeat (first | refine blk_drewN ?_ _ | refine blk_drew ?_ | refine blk_alloc ?_ _)); refine blk_far ?_ NB267_298.out _; (with_reducible repeat (first | refine blk_drewN ?_ _ | refine blk_drew ?_ | refine blk_alloc ?_ _)); exact BK267.out) hb); have n9_ := Aside0.mk (blk_below (g := gb298) (o := .cells #[.int .i64 t290, .int .i64 t291, .slice Ao124 t292.length co124, .int .i64 t295, .int .i64 t296] 34 (0, 0)) (by (with_reducible repeat (first | refine blk_drewN ?_ _ | refine blk_drew ?_ | refine blk_alloc ?_ _)); refine blk_put (cs := #[.int .i64 t290, .int .i64 t291, .slice Ao124 t292.length co124, .int .i64 t295, .int .i64 0]) ?_ 4 _ rfl; (with_reducible repeat (first | refine blk_drewN ?_ _ | refine blk_drew ?_ | refine blk_alloc ?_ _)); refine blk_put (cs := #[.int .i64 t290, .int .i64 t291, .slice Ao124 t292.length co124, .int .i64 0, .int .i64 0]) ?_ 3 _ rfl; (with_reducible repeat (first | refine blk_drewN ?_ _ | refine blk_drew ?_ | refine blk_alloc ?_ _)); refine blk_put (cs := #[.int .i64 t290, .int .i64 t291, .slice none 0 0, .int .i64 0, .int .i64 0]) ?_ 2 _ rfl; (with_reducible repeat (first | refine blk_drewN ?_ _ | refine blk_drew ?_ | refine blk_alloc ?_ _)); refine blk_put (cs := #[.int .i64 t290, .int .i64 0, .slice none 0 0, .int .i64 0, .int .i64 0]) ?_ 1 _ rfl; (with_reducible repeat (first | refine blk_drewN ?_ _ | refine blk_drew ?_ | refine blk_alloc ?_ _)); refine blk_put (cs := #[.int .i64 0, .int .i64 0, .slice none 0 0, .int .i64 0, .int .i64 0]) ?_ 0 _ rfl; (with_reducible repeat (first | refine blk_drewN ?_ _ | refine blk_drew ?_ | refine blk_alloc ?_ _)); exact BK298.out) hb); have n10_ := Aside0.mk (below_step (by repeat (first | (with_reducible first | exact HB.out | apply below_alloc | apply pw_below_drewN | apply below_drew1 | refine below_set ?_ GE233.out | refine below_set ?_ GE250.out | refine below_set ?_ GE258.out | refine below_set ?_ GE267.out | refine below_set ?_ GE298.out) | exact HB.out)) hb); clear HO_251002 HO_259002 HO_268002 HO287 HO294 BK233 BK250 BK258 BK267 BK298 HB; revert n0_ n1_ n2_ n3_ n4_ n5_ n6_ n7_ n8_ n9_ n10_; intro HO_251002 HO_259002 HO_268002 HO287 HO294 BK233 BK250 BK258 BK267 BK298 HB; (try clear hb); (try clear hb2); (try clear hk); (try clear hi)))
       go_meet
       case rel => exact ⟨_, ((t297 != t249)), zi, H', ⟨by have := HJ11.out; have := HJ60.out; first | omega | exact Nat.le_refl _⟩, ⟨by (try simp only [hl259002_60]); (with_reducible repeat (first | apply Kd.R_alloc | apply Kd.R_drewN | apply Kd.R_drew)); exact Kd.R_mono HO_251002.out (fun _ hk => ⟨hk.1.1.1, ⟨hk.1.1.2, hk.2⟩⟩)⟩, ⟨by (try simp only [hl259002_60]); (with_reducible repeat (first | apply Kd.R_alloc | apply Kd.R_drewN | apply Kd.R_drew)); exact Kd.R_mono HO_259002.out (fun _ hk => ⟨hk.1.1.1, ⟨hk.1.1.2, hk.2⟩⟩)⟩, ⟨by (try simp only [hl259002_60]); (with_reducible repeat (first | apply Kd.R_alloc | apply Kd.R_drewN | apply Kd.R_drew)); exact Kd.R_mono HO_268002.out (fun _ hk => ⟨hk.1.1.1, ⟨hk.1.1.2, hk.2⟩⟩)⟩, ⟨by (try simp only [hl259002_60]); (with_reducible repeat (first | apply Kd.R_alloc | apply Kd.R_drewN | apply Kd.R_drew)); exact Kd.R_mono HO294.out (fun _ hk => ⟨hk.1.1.1.2, ⟨hk.1.1.2, hk.1.2⟩⟩)⟩, ⟨by (try simp only [hl259002_60]); (with_reducible repeat (first | refine blk_drewN ?_ _ | refine blk_drew ?_ | refine blk_alloc ?_ _)); exact BK233.out⟩, ⟨by (try simp only [hl259002_60]); (with_reducible repeat (first | refine blk_drewN ?_ _ | refine blk_drew ?_ | refine blk_alloc ?_ _)); exact BK250.out⟩, ⟨by (try simp only [hl259002_60]); (with_reducible repeat (first | refine blk_drewN ?_ _ | refine blk_drew ?_ | refine blk_alloc ?_ _)); exact BK258.out⟩, ⟨by (try simp only [hl259002_60]); (with_reducible repeat (first | refine blk_drewN ?_ _ | refine blk_drew ?_ | refine blk_alloc ?_ _)); exact BK267.out⟩, ⟨by (try simp only [hl259002_60]); (with_reducible repeat (first | refine blk_drewN ?_ _ | refine blk_drew ?_ | refine blk_alloc ?_ _)); exact BK298.out⟩, ⟨by repeat (first | (with_reducible first | exact HB.out | apply below_alloc | apply pw_below_drewN | apply below_drew1 | refine below_set ?_ GE233.out | refine below_set ?_ GE250.out | refine below_set ?_ GE258.out | refine below_set ?_ GE267.out | refine below_set ?_ GE298.out) | exact HB.out)⟩⟩
      replace c126 := Bool.eq_false_iff.mpr c126
      subst c126
      have H1 : (laws_FnExactFlyShift.j2 kj60 t280 true t259 t260 t281 t264 t265) = some r := by rw [if_neg (show ¬ (false = true) by decide)] at H; exact H
      clear H
      have H := H1
      clear H1
      have H' := Aside0.mk H
      clear H
      have hnb137 := NB298_233.out
      have hnc137 := NB233_298.out
      have hnb138 := NB298_250.out
      have hnc138 := NB250_298.out
      have hnb139 := NB298_258.out
      have hnc139 := NB258_298.out
      have hnb140 := NB298_267.out
      have hnc140 := NB267_298.out
      obtain ⟨hcz141_0, hcz141_1, hcz141_2, hcz141_3, hcz141_4⟩ := zd5 BK298
      obtain ⟨hfz141_0, hfz141_1, hfz141_2, hfz141_3, hfz141_4⟩ := zn5 BK298
      have hnb142 := NB250_233.out
      have hnc142 := NB233_250.out
      have hnb143 := NB250_258.out
      have hnc143 := NB258_250.out
      have hnb144 := NB250_267.out
      have hnc144 := NB267_250.out
      obtain ⟨hcz145_0, hcz145_1, hcz145_2, hcz145_3, hcz145_4⟩ := zd5 BK250
      obtain ⟨hfz145_0, hfz145_1, hfz145_2, hfz145_3, hfz145_4⟩ := zn5 BK250
      go_wp2_with (first | ((with_reducible refine gate_callee (f := 21) rfl ?_); refine goesL_ (some 86) rfl rfl Try.func21 (by kernel_rfl) rfl #[.agg #[.int .i64 t290, .int .i64 t291, .slice Ao124 t292.length co124, .int .i64 t295, .int .i64 t296], .agg #[.int .i64 t242, .int .i64 t243, .slice Ao23 t244.length co23, .int .i64 t247, .int .i64 t248]] rfl zl ?_; (with_reducible refine (laws_eqFlyPath.calls kj60 t290 t291 _ _ t292 t295 t296 t242 t243 _ _ t244 t247 t248 false _ ?side1 ?side2 ?side3 ?side4 A125.out).mono ?_); (case side1 => refine (Kd.R_reads' (e := 88) (base := w.heap.size) (ok := fun k_ => ((((True ∧ some k_ ≠ (.slice Ao23 t244.length co23 : Value).ownBlock) ∧ some k_ ≠ (.slice Ao30 t278.length co30 : Value).ownBlock) ∧ some k_ ≠ (.slice Ao37 t261.length co37 : Value).ownBlock) ∧ some k_ ≠ (.slice Ao116 t285.length co116 : Value).ownBlock)) (n := t292.length) (c := co124) ?_).2.2; exact (by (with_reducible repeat (first | apply Kd.R_alloc | apply Kd.R_drewN | apply Kd.R_drew)); exact (Kd.R_mono (Kd.R_far (p := ⟨gb298, 4, none⟩) (Kd.R_far (p := ⟨gb298, 3, none⟩) (Kd.R_far (p := ⟨gb298, 2, none⟩) (Kd.R_far (p := ⟨gb298, 1, none⟩) (Kd.R_far (p := ⟨gb298, 0, none⟩) (Kd.R_types HO294.out BK298.out (by decide)) (fun _ hk => hk.2) (.int .i64 t290)) (fun _ hk => hk.2) (.int .i64 t291)) (fun _ hk => hk.2) (.slice Ao124 t292.length co124)) (fun _ hk => hk.2) (.int .i64 t295)) (fun _ hk => hk.2) (.int .i64 t296)) (fun _ h_ => h_.1)))); (case side2 => exact (Kd.R_reads' HO294.out).2.1); (case side3 => refine (Kd.R_reads' (e := 88) (base := w.heap.size) (ok := fun k_ => (((some k_ ≠ (.slice Ao30 t278.length co30 : Value).ownBlock ∧ some k_ ≠ (.slice Ao37 t261.length co37 : Value).ownBlock) ∧ some k_ ≠ (.slice Ao116 t285.length co116 : Value).ownBlock) ∧ some k_ ≠ (.slice Ao124 t292.length co124 : Value).ownBlock)) (n := t244.length) (c := co23) ?_).2.2; exact (by (with_reducible repeat (first | apply Kd.R_alloc | apply Kd.R_drewN | apply Kd.R_drew)); exact (Kd.R_mono (Kd.R_far (p := ⟨gb298, 4, none⟩) (Kd.R_far (p := ⟨gb298, 3, none⟩) (Kd.R_far (p := ⟨gb298, 2, none⟩) (Kd.R_far (p := ⟨gb298, 1, none⟩) (Kd.R_far (p := ⟨gb298, 0, none⟩) (Kd.R_types HO_251002.out BK298.out (by decide)) (fun _ hk => hk.2) (.int .i64 t290)) (fun _ hk => hk.2) (.int .i64 t291)) (fun _ hk => hk.2) (.slice Ao124 t292.length co124)) (fun _ hk => hk.2) (.int .i64 t295)) (fun _ hk => hk.2) (.int .i64 t296)) (fun _ h_ => h_.1)))); (case side4 => exact (Kd.R_reads' HO_251002.out).2.1); rintro e w146 ⟨rfl, hb⟩; refine ⟨_, rfl, ?_⟩; have n0_ := Aside0.mk (Kd.R_below (by (with_reducible repeat (first | apply Kd.R_alloc | apply Kd.R_drewN | apply Kd.R_drew)); exact (Kd.R_mono (Kd.R_far (p := ⟨gb298, 4, none⟩) (Kd.R_far (p := ⟨gb298, 3, none⟩) (Kd.R_far (p := ⟨gb298, 2, none⟩) (Kd.R_far (p := ⟨gb298, 1, none⟩) (Kd.R_far (p := ⟨gb298, 0, none⟩) (Kd.R_types HO_251002.out BK298.out (by decide)) (fun _ hk => hk.2) (.int .i64 t290)) (fun _ hk => hk.2) (.int .i64 t291)) (fun _ hk => hk.2) (.slice Ao124 t292.length co124)) (fun _ hk => hk.2) (.int .i64 t295)) (fun _ hk => hk.2) (.int .i64 t296)) (fun _ h_ => h_.1))) hb); have n1_ := Aside0.mk (Kd.R_below (by (with_reducible repeat (first | apply Kd.R_alloc | apply Kd.R_drewN | apply Kd.R_drew)); exact (Kd.R_mono (Kd.R_far (p := ⟨gb298, 4, none⟩) (Kd.R_far (p := ⟨gb298, 3, none⟩) (Kd.R_far (p := ⟨gb298, 2, none⟩) (Kd.R_far (p := ⟨gb298, 1, none⟩) (Kd.R_far (p := ⟨gb298, 0, none⟩) (Kd.R_types HO_259002.out BK298.out (by decide)) (fun _ hk => hk.2) (.int .i64 t290)) (fun _ hk => hk.2) (.int .i64 t291)) (fun _ hk => hk.2) (.slice Ao124 t292.length co124)) (fun _ hk => hk.2) (.int .i64 t295)) (fun _ hk => hk.2) (.int .i64 t296)) (fun _ h_ => h_.1))) hb); have n2_ := Aside0.mk (Kd.R_below (by (with_reducible repeat (first | apply Kd.R_alloc | apply Kd.R_drewN | apply Kd.R_drew)); exact (Kd.R_mono (Kd.R_far (p := ⟨gb298, 4, none⟩) (Kd.R_far (p := ⟨gb298, 3, none⟩) (Kd.R_far (p := ⟨gb298, 2, none⟩) (Kd.R_far (p := ⟨gb298, 1, none⟩) (Kd.R_far (p := ⟨gb298, 0, none⟩) (Kd.R_types HO_268002.out BK298.out (by decide)) (fun _ hk => hk.2) (.int .i64 t290)) (fun _ hk => hk.2) (.int .i64 t291)) (fun _ hk => hk.2) (.slice Ao124 t292.length co124)) (fun _ hk => hk.2) (.int .i64 t295)) (fun _ hk => hk.2) (.int .i64 t296)) (fun _ h_ => h_.1))) hb); have n3_ := Aside0.mk (Kd.R_below (by (with_reducible repeat (first | apply Kd.R_alloc | apply Kd.R_drewN | apply Kd.R_drew)); exact (Kd.R_mono (Kd.R_far (p := ⟨gb298, 4, none⟩) (Kd.R_far (p := ⟨gb298, 3, none⟩) (Kd.R_far (p := ⟨gb298, 2, none⟩) (Kd.R_far (p := ⟨gb298, 1, none⟩) (Kd.R_far (p := ⟨gb298, 0, none⟩) (Kd.R_types HO287.out BK298.out (by decide)) (fun _ hk => hk.2) (.int .i64 t290)) (fun _ hk => hk.2) (.int .i64 t291)) (fun _ hk => hk.2) (.slice Ao124 t292.length co124)) (fun _ hk => hk.2) (.int .i64 t295)) (fun _ hk => hk.2) (.int .i64 t296)) (fun _ h_ => h_.1))) hb); have n4_ := Aside0.mk (Kd.R_below (by (with_reducible repeat (first | apply Kd.R_alloc | apply Kd.R_drewN | apply Kd.R_drew)); exact (Kd.R_mono (Kd.R_far (p := ⟨gb298, 4, none⟩) (Kd.R_far (p := ⟨gb298, 3, none⟩) (Kd.R_far (p := ⟨gb298, 2, none⟩) (Kd.R_far (p := ⟨gb298, 1, none⟩) (Kd.R_far (p := ⟨gb298, 0, none⟩) (Kd.R_types HO294.out BK298.out (by decide)) (fun _ hk => hk.2) (.int .i64 t290)) (fun _ hk => hk.2) (.int .i64 t291)) (fun _ hk => hk.2) (.slice Ao124 t292.length co124)) (fun _ hk => hk.2) (.int .i64 t295)) (fun _ hk => hk.2) (.int .i64 t296)) (fun _ h_ => h_.1))) hb); have n5_ := Aside0.mk (blk_below (g := gb233) (o := .cells #[.int .i64 a0_0, .int .i64 a0_1, .slice A0_2 l0_2.length c0_2, .int .i64 a0_3, .int .i64 a0_4] 26 (0, 0)) (by (with_reducible repeat (first | refine blk_drewN ?_ _ | refine blk_drew ?_ | refine blk_alloc ?_ _)); refine blk_far ?_ NB233_298.out _; (with_reducible repeat (first | refine blk_drewN ?_ _ | refine blk_drew ?_ | refine blk_alloc ?_ _)); refine blk_far ?_ NB233_298.out _; (with_reducible repeat (first | refine blk_drewN ?_ _ | refine blk_drew ?_ | refine blk_alloc ?_ _)); refine blk_far ?_ NB233_298.out _; (with_reducible repeat (first | refine blk_drewN ?_ _ | refine blk_drew ?_ | refine blk_alloc ?_ _)); refine blk_far ?_ NB233_298.out _; (with_reducible repeat (first | refine blk_drewN ?_ _ | refine blk_drew ?_ | refine blk_alloc ?_ _)); refine blk_far ?_ NB233_298.out _; (with_reducible repeat (first | refine blk_drewN ?_ _ | refine blk_drew ?_ | refine blk_alloc ?_ _)); exact BK233.out) hb); have n6_ := Aside0.mk (blk_below (g := gb250) (o := .cells #[.int .i64 t242, .int .i64 t243, .slice Ao23 t244.length co23, .int .i64 t247, .int .i64 t248] 34 (0, 0)) (by (with_reducible repeat (first | refine blk_drewN ?_ _ | refine blk_drew ?_ | refine blk_alloc ?_ _)); refine blk_far ?_ NB250_298.out _; (with_reducible repeat (first | refine blk_drewN ?_ _ | refine blk_drew ?_ | refine blk_alloc ?_ _)); refine blk_far ?_ NB250_298.out _; (with_reducible repeat (first | refine blk_drewN ?_ _ | refine blk_drew ?_ | refine blk_alloc ?_ _)); refine blk_far ?_ NB250_298.out _; (with_reducible repeat (first | refine blk_drewN ?_ _ | refine blk_drew ?_ | refine blk_alloc ?_ _)); refine blk_far ?_ NB250_298.out _; (with_reducible repeat (first | refine blk_drewN ?_ _ | refine blk_drew ?_ | refine blk_alloc ?_ _)); refine blk_far ?_ NB250_298.out _; (with_reducible repeat (first | refine blk_drewN ?_ _ | refine blk_drew ?_ | refine blk_alloc ?_ _)); exact BK250.out) hb); have n7_ := Aside0.mk (blk_below (g := gb258) (o := .cells #[.int .i64 t251, .int .i64 t252, .slice Ao30 t278.length co30, .int .i64 t256, .int .i64 t257] 34 (0, 0)) (by (with_reducible repeat (first | refine blk_drewN ?_ _ | refine blk_drew ?_ | refine blk_alloc ?_ _)); refine blk_far ?_ NB258_298.out _; (with_reducible repeat (first | refine blk_drewN ?_ _ | refine blk_drew ?_ | refine blk_alloc ?_ _)); refine blk_far ?_ NB258_298.out _; (with_reducible repeat (first | refine blk_drewN ?_ _ | refine blk_drew ?_ | refine blk_alloc ?_ _)); refine blk_far ?_ NB258_298.out _; (with_reducible repeat (first | refine blk_drewN ?_ _ | refine blk_drew ?_ | refine blk_alloc ?_ _)); refine blk_far ?_ NB258_298.out _; (with_reducible repeat (first | refine blk_drewN ?_ _ | refine blk_drew ?_ | refine blk_alloc ?_ _)); refine blk_far ?_ NB258_298.out _; (with_reducible repeat (first | refine blk_drewN ?_ _ | refine blk_drew ?_ | refine blk_alloc ?_ _)); exact BK258.out) hb); have n8_ := Aside0.mk (blk_below (g := gb267) (o := .cells #[.int .i64 t259, .int .i64 t260, .slice Ao37 t261.length co37, .int .i64 t264, .int .i64 t265] 34 (0, 0)) (by (with_reducible repeat (first | refine blk_drewN ?_ _ | refine blk_drew ?_ | refine blk_alloc ?_ _)); refine blk_far ?_ NB267_298.out _; (with_reducible repeat (first | refine blk_drewN ?_ _ | refine blk_drew ?_ | refine blk_alloc ?_ _)); refine blk_far ?_ NB267_298.out _; (with_reducible repeat (first | refine blk_drewN ?_ _ | refine blk_drew ?_ | refine blk_alloc ?_ _)); refine blk_far ?_ NB267_298.out _; (with_reducible repeat (first | refine blk_drewN ?_ _ | refine blk_drew ?_ | refine blk_alloc ?_ _)); refine blk_far ?_ NB267_298.out _; (with_reducible repeat (first | refine blk_drewN ?_ _ | refine blk_drew ?_ | refine blk_alloc ?_ _)); refine blk_far ?_ NB267_298.out _; (with_reducible repeat (first | refine blk_drewN ?_ _ | refine blk_drew ?_ | refine blk_alloc ?_ _)); exact BK267.out) hb); have n9_ := Aside0.mk (blk_below (g := gb298) (o := .cells #[.int .i64 t290, .int .i64 t291, .slice Ao124 t292.length co124, .int .i64 t295, .int .i64 t296] 34 (0, 0)) (by (with_reducible repeat (first | refine blk_drewN ?_ _ | refine blk_drew ?_ | refine blk_alloc ?_ _)); refine blk_put (cs := #[.int .i64 t290, .int .i64 t291, .slice Ao124 t292.length co124, .int .i64 t295, .int .i64 0]) ?_ 4 _ rfl; (with_reducible repeat (first | refine blk_drewN ?_ _ | refine blk_drew ?_ | refine blk_alloc ?_ _)); refine blk_put (cs := #[.int .i64 t290, .int .i64 t291, .slice Ao124 t292.length co124, .int .i64 0, .int .i64 0]) ?_ 3 _ rfl; (with_reducible repeat (first | refine blk_drewN ?_ _ | refine blk_drew ?_ | refine blk_alloc ?_ _)); refine blk_put (cs := #[.int .i64 t290, .int .i64 t291, .slice none 0 0, .int .i64 0, .int .i64 0]) ?_ 2 _ rfl; (with_reducible repeat (first | refine blk_drewN ?_ _ | refine blk_drew ?_ | refine blk_alloc ?_ _)); refine blk_put (cs := #[.int .i64 t290, .int .i64 0, .slice none 0 0, .int .i64 0, .int .i64 0]) ?_ 1 _ rfl; (with_reducible repeat (first | refine blk_drewN ?_ _ | refine blk_drew ?_ | refine blk_alloc ?_ _)); refine blk_put (cs := #[.int .i64 0, .int .i64 0, .slice none 0 0, .int .i64 0, .int .i64 0]) ?_ 0 _ rfl; (with_reducible repeat (first | refine blk_drewN ?_ _ | refine blk_drew ?_ | refine blk_alloc ?_ _)); exact BK298.out) hb); have n10_ := Aside0.mk (below_step (by repeat (first | (with_reducible first | exact HB.out | apply below_alloc | apply pw_below_drewN | apply below_drew1 | refine below_set ?_ GE233.out | refine below_set ?_ GE250.out | refine below_set ?_ GE258.out | refine below_set ?_ GE267.out | refine below_set ?_ GE298.out) | exact HB.out)) hb); clear HO_251002 HO_259002 HO_268002 HO287 HO294 BK233 BK250 BK258 BK267 BK298 HB; revert n0_ n1_ n2_ n3_ n4_ n5_ n6_ n7_ n8_ n9_ n10_; intro HO_251002 HO_259002 HO_268002 HO287 HO294 BK233 BK250 BK258 BK267 BK298 HB; (try clear hb); (try clear hb2); (try clear hk); (try clear hi)))
      go_meet
      case rel => exact ⟨_, (true), zi, H', ⟨by have := HJ11.out; have := HJ60.out; first | omega | exact Nat.le_refl _⟩, ⟨by (try simp only [hl259002_60]); (with_reducible repeat (first | apply Kd.R_alloc | apply Kd.R_drewN | apply Kd.R_drew)); exact Kd.R_mono HO_251002.out (fun _ hk => ⟨hk.1.1.1, ⟨hk.1.1.2, hk.2⟩⟩)⟩, ⟨by (try simp only [hl259002_60]); (with_reducible repeat (first | apply Kd.R_alloc | apply Kd.R_drewN | apply Kd.R_drew)); exact Kd.R_mono HO_259002.out (fun _ hk => ⟨hk.1.1.1, ⟨hk.1.1.2, hk.2⟩⟩)⟩, ⟨by (try simp only [hl259002_60]); (with_reducible repeat (first | apply Kd.R_alloc | apply Kd.R_drewN | apply Kd.R_drew)); exact Kd.R_mono HO_268002.out (fun _ hk => ⟨hk.1.1.1, ⟨hk.1.1.2, hk.2⟩⟩)⟩, ⟨by (try simp only [hl259002_60]); (with_reducible repeat (first | apply Kd.R_alloc | apply Kd.R_drewN | apply Kd.R_drew)); exact Kd.R_mono HO294.out (fun _ hk => ⟨hk.1.1.1.2, ⟨hk.1.1.2, hk.1.2⟩⟩)⟩, ⟨by (try simp only [hl259002_60]); (with_reducible repeat (first | refine blk_drewN ?_ _ | refine blk_drew ?_ | refine blk_alloc ?_ _)); exact BK233.out⟩, ⟨by (try simp only [hl259002_60]); (with_reducible repeat (first | refine blk_drewN ?_ _ | refine blk_drew ?_ | refine blk_alloc ?_ _)); exact BK250.out⟩, ⟨by (try simp only [hl259002_60]); (with_reducible repeat (first | refine blk_drewN ?_ _ | refine blk_drew ?_ | refine blk_alloc ?_ _)); exact BK258.out⟩, ⟨by (try simp only [hl259002_60]); (with_reducible repeat (first | refine blk_drewN ?_ _ | refine blk_drew ?_ | refine blk_alloc ?_ _)); exact BK267.out⟩, ⟨by (try simp only [hl259002_60]); (with_reducible repeat (first | refine blk_drewN ?_ _ | refine blk_drew ?_ | refine blk_alloc ?_ _)); exact BK298.out⟩, ⟨by repeat (first | (with_reducible first | exact HB.out | apply below_alloc | apply pw_below_drewN | apply below_drew1 | refine below_set ?_ GE233.out | refine below_set ?_ GE250.out | refine below_set ?_ GE258.out | refine below_set ?_ GE267.out | refine below_set ?_ GE298.out) | exact HB.out)⟩⟩
     case rest =>
      clear HC104
      try clear c1
      try clear c2
      try clear p2
      try clear c3
      try clear c4
      try clear c4b0
      try clear c5
      try clear c6
      try clear c7
      try clear c8
      try clear c9
      try clear c10
      try clear c11
      try clear c12
      try clear c13
      try clear c14
      try clear c15
      try clear c17
      try clear c21
      try clear c22
      try clear c27
      try clear c28
      try clear c33
      try clear c34
      try clear c35
      try clear c36
      try clear c37
      try clear c39
      try clear c40
      try clear c41
      try clear c42
      try clear c44
      try clear c45
      try clear c48
      try clear c49
      try clear c50
      try clear c52
      try clear c53
      try clear c56
      try clear c59
      try clear c66
      try clear c67
      try clear c68
      try clear c71
      try clear c71b0
      try clear c73
      try clear c74
      try clear c75
      try clear c76
      try clear c78
      try clear c79
      try clear c82
      try clear c83
      try clear c84
      try clear c86
      try clear c87
      try clear c90
      try clear c93
      try clear c93b0
      try clear c94
      try clear c95
      try clear c96
      try clear c101
      try clear c101b0
      try clear c101b1
      try clear c105
      try clear c106
      try clear c107
      try clear c112
      try clear c113
      try clear c119
      try clear c120
      try clear c121
      try clear c122
      try clear c126
      try clear c127
      try clear c128
      try clear c129
      try clear c130
      try clear c132
      try clear c133
      try clear c134
      try clear c137
      try clear c138
      try clear c139
      try clear c140
      try clear c142
      try clear c143
      try clear c144
      try clear hcz108_0
      try clear hcz108_1
      try clear hcz108_2
      try clear hcz108_3
      try clear hcz108_4
      try clear hcz110_0
      try clear hcz110_1
      try clear hcz110_2
      try clear hcz110_3
      try clear hcz110_4
      try clear hcz114_0
      try clear hcz114_1
      try clear hcz114_2
      try clear hcz114_3
      try clear hcz114_4
      try clear hcz123_0
      try clear hcz123_1
      try clear hcz123_2
      try clear hcz123_3
      try clear hcz123_4
      try clear hcz131_0
      try clear hcz131_1
      try clear hcz131_2
      try clear hcz131_3
      try clear hcz131_4
      try clear hcz135_0
      try clear hcz135_1
      try clear hcz135_2
      try clear hcz135_3
      try clear hcz135_4
      try clear hcz141_0
      try clear hcz141_1
      try clear hcz141_2
      try clear hcz141_3
      try clear hcz141_4
      try clear hcz145_0
      try clear hcz145_1
      try clear hcz145_2
      try clear hcz145_3
      try clear hcz145_4
      try clear hcz14_0
      try clear hcz14_1
      try clear hcz14_2
      try clear hcz14_3
      try clear hcz14_4
      try clear hcz16_0
      try clear hcz16_1
      try clear hcz16_2
      try clear hcz16_3
      try clear hcz16_4
      try clear hcz22_0
      try clear hcz22_1
      try clear hcz22_2
      try clear hcz22_3
      try clear hcz22_4
      try clear hcz24_0
      try clear hcz24_1
      try clear hcz24_2
      try clear hcz24_3
      try clear hcz24_4
      try clear hcz29_0
      try clear hcz29_1
      try clear hcz29_2
      try clear hcz29_3
      try clear hcz29_4
      try clear hcz36_0
      try clear hcz36_1
      try clear hcz36_2
      try clear hcz36_3
      try clear hcz36_4
      try clear hcz43_0
      try clear hcz43_1
      try clear hcz43_2
      try clear hcz43_3
      try clear hcz43_4
      try clear hcz46_0
      try clear hcz46_1
      try clear hcz46_2
      try clear hcz46_3
      try clear hcz46_4
      try clear hcz51_0
      try clear hcz51_1
      try clear hcz51_2
      try clear hcz51_3
      try clear hcz51_4
      try clear hcz54_0
      try clear hcz54_1
      try clear hcz54_2
      try clear hcz54_3
      try clear hcz54_4
      try clear hcz69_0
      try clear hcz69_1
      try clear hcz69_2
      try clear hcz69_3
      try clear hcz69_4
      try clear hcz6_0
      try clear hcz6_1
      try clear hcz6_2
      try clear hcz6_3
      try clear hcz6_4
      try clear hcz77_0
      try clear hcz77_1
      try clear hcz77_2
      try clear hcz77_3
      try clear hcz77_4
      try clear hcz80_0
      try clear hcz80_1
      try clear hcz80_2
      try clear hcz80_3
      try clear hcz80_4
      try clear hcz85_0
      try clear hcz85_1
      try clear hcz85_2
      try clear hcz85_3
      try clear hcz85_4
      try clear hcz88_0
      try clear hcz88_1
      try clear hcz88_2
      try clear hcz88_3
      try clear hcz88_4
      try clear hcz97_0
      try clear hcz97_1
      try clear hcz97_2
      try clear hcz97_3
      try clear hcz97_4
      try clear hcz99_0
      try clear hcz99_1
      try clear hcz99_2
      try clear hcz99_3
      try clear hcz99_4
      try clear hfz108_0
      try clear hfz108_1
      try clear hfz108_2
      try clear hfz108_3
      try clear hfz108_4
      try clear hfz110_0
      try clear hfz110_1
      try clear hfz110_2
      try clear hfz110_3
      try clear hfz110_4
      try clear hfz114_0
      try clear hfz114_1
      try clear hfz114_2
      try clear hfz114_3
      try clear hfz114_4
      try clear hfz123_0
      try clear hfz123_1
      try clear hfz123_2
      try clear hfz123_3
      try clear hfz123_4
      try clear hfz131_0
      try clear hfz131_1
      try clear hfz131_2
      try clear hfz131_3
      try clear hfz131_4
      try clear hfz135_0
      try clear hfz135_1
      try clear hfz135_2
      try clear hfz135_3
      try clear hfz135_4
      try clear hfz141_0
      try clear hfz141_1
      try clear hfz141_2
      try clear hfz141_3
      try clear hfz141_4
      try clear hfz145_0
      try clear hfz145_1
      try clear hfz145_2
      try clear hfz145_3
      try clear hfz145_4
      try clear hfz14_0
      try clear hfz14_1
      try clear hfz14_2
      try clear hfz14_3
      try clear hfz14_4
      try clear hfz16_0
      try clear hfz16_1
      try clear hfz16_2
      try clear hfz16_3
      try clear hfz16_4
      try clear hfz22_0
      try clear hfz22_1
      try clear hfz22_2
      try clear hfz22_3
      try clear hfz22_4
      try clear hfz24_0
      try clear hfz24_1
      try clear hfz24_2
      try clear hfz24_3
      try clear hfz24_4
      try clear hfz29_0
      try clear hfz29_1
      try clear hfz29_2
      try clear hfz29_3
      try clear hfz29_4
      try clear hfz36_0
      try clear hfz36_1
      try clear hfz36_2
      try clear hfz36_3
      try clear hfz36_4
      try clear hfz43_0
      try clear hfz43_1
      try clear hfz43_2
      try clear hfz43_3
      try clear hfz43_4
      try clear hfz46_0
      try clear hfz46_1
      try clear hfz46_2
      try clear hfz46_3
      try clear hfz46_4
      try clear hfz51_0
      try clear hfz51_1
      try clear hfz51_2
      try clear hfz51_3
      try clear hfz51_4
      try clear hfz54_0
      try clear hfz54_1
      try clear hfz54_2
      try clear hfz54_3
      try clear hfz54_4
      try clear hfz69_0
      try clear hfz69_1
      try clear hfz69_2
      try clear hfz69_3
      try clear hfz69_4
      try clear hfz6_0
      try clear hfz6_1
      try clear hfz6_2
      try clear hfz6_3
      try clear hfz6_4
      try clear hfz77_0
      try clear hfz77_1
      try clear hfz77_2
      try clear hfz77_3
      try clear hfz77_4
      try clear hfz80_0
      try clear hfz80_1
      try clear hfz80_2
      try clear hfz80_3
      try clear hfz80_4
      try clear hfz85_0
      try clear hfz85_1
      try clear hfz85_2
      try clear hfz85_3
      try clear hfz85_4
      try clear hfz88_0
      try clear hfz88_1
      try clear hfz88_2
      try clear hfz88_3
      try clear hfz88_4
      try clear hfz97_0
      try clear hfz97_1
      try clear hfz97_2
      try clear hfz97_3
      try clear hfz97_4
      try clear hfz99_0
      try clear hfz99_1
      try clear hfz99_2
      try clear hfz99_3
      try clear hfz99_4
      try clear p2
      obtain ⟨kq, x92_103, rfl, HA, HJ103, HO_251002, HO_259002, HO_268002, HO_299002, BK233, BK250, BK258, BK267, BK298, HB⟩ := hcut
      have hl268002_103 := (Kd.R_reads' HO_268002.out).1
      rw [hl268002_103] at HO_268002
      (try simp only [hl268002_103])
      (try simp only [hl268002_103] at BK233)
      (try simp only [hl268002_103] at BK250)
      (try simp only [hl268002_103] at BK258)
      (try simp only [hl268002_103] at BK267)
      (try simp only [hl268002_103] at BK298)
      (try simp only [hl268002_103] at HO_251002)
      (try simp only [hl268002_103] at HO_259002)
      (try simp only [hl268002_103] at HO_299002)
      cases kq with
      | zero => exact absurd HA.out (by simp [laws_FnExactFlyShift.j2])
      | succ kj103 =>
       have H := HA.out
       clear HA
       simp only [laws_FnExactFlyShift.j2] at H
       by_cases c147 : x92_103 = true
       ·subst c147
        have H1 : (some false) = some r := by rw [if_pos rfl] at H; exact H
        clear H
        have H := H1
        clear H1
        obtain rfl := Option.some.inj H
        go_wp2
        go_ret
        exact ⟨ze, by repeat (first | (with_reducible first | exact HB.out | apply below_alloc | apply pw_below_drewN | apply below_drew1 | refine below_set ?_ GE233.out | refine below_set ?_ GE250.out | refine below_set ?_ GE258.out | refine below_set ?_ GE267.out | refine below_set ?_ GE298.out) | exact HB.out)⟩
       replace c147 := Bool.eq_false_iff.mpr c147
       subst c147
       have H1 : ((laws_heldFlyPath.f kj103 t259 t260 t281 t264 t265 1).bind fun t300 => (if t300 < 0 then (some false) else (if t300 = t280 then (some true) else (some false)))) = some r := by rw [if_neg (show ¬ (false = true) by decide)] at H; exact H
       clear H
       have H := H1
       clear H1
       replace H := Option.bind_eq_some_iff.mp H
       obtain ⟨t300, A1480, H⟩ := H
       replace H : (if t300 < 0 then (some false) else (if t300 = t280 then (some true) else (some false))) = some r := H
       have A148 := Aside0.mk A1480
       clear A1480
       by_cases c149 : t300 < 0
       ·rw [if_pos c149] at H
        have c149b0 : decide (t300 < 0) = true := decide_eq_true c149
        clear c149
        obtain rfl := Option.some.inj H
        have hnb150 := NB267_233.out
        have hnc150 := NB233_267.out
        have hnb151 := NB267_250.out
        have hnc151 := NB250_267.out
        have hnb152 := NB267_258.out
        have hnc152 := NB258_267.out
        have hnb153 := NB267_298.out
        have hnc153 := NB298_267.out
        obtain ⟨hcz154_0, hcz154_1, hcz154_2, hcz154_3, hcz154_4⟩ := zd5 BK267
        obtain ⟨hfz154_0, hfz154_1, hfz154_2, hfz154_3, hfz154_4⟩ := zn5 BK267
        go_wp2_with (first | ((with_reducible refine gate_callee (f := 37) rfl ?_); refine goesL_ (some 95) rfl rfl Try.func37 (by kernel_rfl) rfl #[.agg #[.int .i64 t259, .int .i64 t260, .slice Ao37 t281.length co37, .int .i64 t264, .int .i64 t265], .int .i64 1] rfl zl ?_; (with_reducible refine (laws_heldFlyPath.calls kj103 t259 t260 _ _ t281 t264 t265 1 t300 _ ?side1 ?side2 A148.out).mono ?_); (case side1 => repeat (first | exact (Kd.R_reads' HO_268002.out).2.2 | (with_reducible refine Kd.C_alloc ?_ _) | (with_reducible refine Kd.C_drewN ?_ _) | (with_reducible refine Kd.C_drew ?_))); (case side2 => exact (Kd.R_reads' HO_268002.out).2.1); rintro e w155 ⟨rfl, hb⟩; refine ⟨_, rfl, ?_⟩; have n0_ := Aside0.mk (Kd.R_below (zr HO_251002) hb); have n1_ := Aside0.mk (Kd.R_below (zr HO_259002) hb); have n2_ := Aside0.mk (Kd.R_below (zr HO_268002) hb); have n3_ := Aside0.mk (Kd.R_below (zr HO_299002) hb); have n4_ := zb BK233 hb; have n5_ := zb BK250 hb; have n6_ := zb BK258 hb; have n7_ := zb BK267 hb; have n8_ := zb BK298 hb; have n9_ := Aside0.mk (below_step (by repeat (first | (with_reducible first | exact HB.out | apply below_alloc | apply pw_below_drewN | apply below_drew1 | refine below_set ?_ GE233.out | refine below_set ?_ GE250.out | refine below_set ?_ GE258.out | refine below_set ?_ GE267.out | refine below_set ?_ GE298.out) | exact HB.out)) hb); clear HO_251002 HO_259002 HO_268002 HO_299002 BK233 BK250 BK258 BK267 BK298 HB; revert n0_ n1_ n2_ n3_ n4_ n5_ n6_ n7_ n8_ n9_; intro HO_251002 HO_259002 HO_268002 HO_299002 BK233 BK250 BK258 BK267 BK298 HB; (try clear hb); (try clear hb2); (try clear hk); (try clear hi)))
        go_ret
        exact ⟨ze, by repeat (first | (with_reducible first | exact HB.out | apply below_alloc | apply pw_below_drewN | apply below_drew1 | refine below_set ?_ GE233.out | refine below_set ?_ GE250.out | refine below_set ?_ GE258.out | refine below_set ?_ GE267.out | refine below_set ?_ GE298.out) | exact HB.out)⟩
       rw [if_neg c149] at H
       have c149b0 : decide (t300 < 0) = false := decide_eq_false c149
       clear c149
       by_cases c156 : t300 = t280
       rotate_left
       ·rw [if_neg c156] at H
        have c156b0 : (t300 == t280) = false := beq_eq_false_iff_ne.mpr c156
        have c156b1 : (t300 != t280) = true := bne_iff_ne.mpr c156
        obtain rfl := Option.some.inj H
        have hnb163 := NB267_233.out
        have hnc163 := NB233_267.out
        have hnb164 := NB267_250.out
        have hnc164 := NB250_267.out
        have hnb165 := NB267_258.out
        have hnc165 := NB258_267.out
        have hnb166 := NB267_298.out
        have hnc166 := NB298_267.out
        obtain ⟨hcz167_0, hcz167_1, hcz167_2, hcz167_3, hcz167_4⟩ := zd5 BK267
        obtain ⟨hfz167_0, hfz167_1, hfz167_2, hfz167_3, hfz167_4⟩ := zn5 BK267
        go_wp2_with (first | ((with_reducible refine gate_callee (f := 37) rfl ?_); refine goesL_ (some 95) rfl rfl Try.func37 (by kernel_rfl) rfl #[.agg #[.int .i64 t259, .int .i64 t260, .slice Ao37 t281.length co37, .int .i64 t264, .int .i64 t265], .int .i64 1] rfl zl ?_; (with_reducible refine (laws_heldFlyPath.calls kj103 t259 t260 _ _ t281 t264 t265 1 t300 _ ?side1 ?side2 A148.out).mono ?_); (case side1 => repeat (first | exact (Kd.R_reads' HO_268002.out).2.2 | (with_reducible refine Kd.C_alloc ?_ _) | (with_reducible refine Kd.C_drewN ?_ _) | (with_reducible refine Kd.C_drew ?_))); (case side2 => exact (Kd.R_reads' HO_268002.out).2.1); rintro e w168 ⟨rfl, hb⟩; refine ⟨_, rfl, ?_⟩; have n0_ := Aside0.mk (Kd.R_below (zr HO_251002) hb); have n1_ := Aside0.mk (Kd.R_below (zr HO_259002) hb); have n2_ := Aside0.mk (Kd.R_below (zr HO_268002) hb); have n3_ := Aside0.mk (Kd.R_below (zr HO_299002) hb); have n4_ := zb BK233 hb; have n5_ := zb BK250 hb; have n6_ := zb BK258 hb; have n7_ := zb BK267 hb; have n8_ := zb BK298 hb; have n9_ := Aside0.mk (below_step (by repeat (first | (with_reducible first | exact HB.out | apply below_alloc | apply pw_below_drewN | apply below_drew1 | refine below_set ?_ GE233.out | refine below_set ?_ GE250.out | refine below_set ?_ GE258.out | refine below_set ?_ GE267.out | refine below_set ?_ GE298.out) | exact HB.out)) hb); clear HO_251002 HO_259002 HO_268002 HO_299002 BK233 BK250 BK258 BK267 BK298 HB; revert n0_ n1_ n2_ n3_ n4_ n5_ n6_ n7_ n8_ n9_; intro HO_251002 HO_259002 HO_268002 HO_299002 BK233 BK250 BK258 BK267 BK298 HB; (try clear hb); (try clear hb2); (try clear hk); (try clear hi)))
        go_ret
        exact ⟨ze, by repeat (first | (with_reducible first | exact HB.out | apply below_alloc | apply pw_below_drewN | apply below_drew1 | refine below_set ?_ GE233.out | refine below_set ?_ GE250.out | refine below_set ?_ GE258.out | refine below_set ?_ GE267.out | refine below_set ?_ GE298.out) | exact HB.out)⟩
       rw [if_pos c156] at H
       have c156b0 : (t300 == t280) = true := beq_iff_eq.mpr c156
       have c156b1 : (t300 != t280) = false := bne_eq_false_iff_eq.mpr c156
       clear c156
       obtain rfl := Option.some.inj H
       have hnb157 := NB267_233.out
       have hnc157 := NB233_267.out
       have hnb158 := NB267_250.out
       have hnc158 := NB250_267.out
       have hnb159 := NB267_258.out
       have hnc159 := NB258_267.out
       have hnb160 := NB267_298.out
       have hnc160 := NB298_267.out
       obtain ⟨hcz161_0, hcz161_1, hcz161_2, hcz161_3, hcz161_4⟩ := zd5 BK267
       obtain ⟨hfz161_0, hfz161_1, hfz161_2, hfz161_3, hfz161_4⟩ := zn5 BK267
       go_wp2_with (first | ((with_reducible refine gate_callee (f := 37) rfl ?_); refine goesL_ (some 95) rfl rfl Try.func37 (by kernel_rfl) rfl #[.agg #[.int .i64 t259, .int .i64 t260, .slice Ao37 t281.length co37, .int .i64 t264, .int .i64 t265], .int .i64 1] rfl zl ?_; (with_reducible refine (laws_heldFlyPath.calls kj103 t259 t260 _ _ t281 t264 t265 1 t300 _ ?side1 ?side2 A148.out).mono ?_); (case side1 => repeat (first | exact (Kd.R_reads' HO_268002.out).2.2 | (with_reducible refine Kd.C_alloc ?_ _) | (with_reducible refine Kd.C_drewN ?_ _) | (with_reducible refine Kd.C_drew ?_))); (case side2 => exact (Kd.R_reads' HO_268002.out).2.1); rintro e w162 ⟨rfl, hb⟩; refine ⟨_, rfl, ?_⟩; have n0_ := Aside0.mk (Kd.R_below (zr HO_251002) hb); have n1_ := Aside0.mk (Kd.R_below (zr HO_259002) hb); have n2_ := Aside0.mk (Kd.R_below (zr HO_268002) hb); have n3_ := Aside0.mk (Kd.R_below (zr HO_299002) hb); have n4_ := zb BK233 hb; have n5_ := zb BK250 hb; have n6_ := zb BK258 hb; have n7_ := zb BK267 hb; have n8_ := zb BK298 hb; have n9_ := Aside0.mk (below_step (by repeat (first | (with_reducible first | exact HB.out | apply below_alloc | apply pw_below_drewN | apply below_drew1 | refine below_set ?_ GE233.out | refine below_set ?_ GE250.out | refine below_set ?_ GE258.out | refine below_set ?_ GE267.out | refine below_set ?_ GE298.out) | exact HB.out)) hb); clear HO_251002 HO_259002 HO_268002 HO_299002 BK233 BK250 BK258 BK267 BK298 HB; revert n0_ n1_ n2_ n3_ n4_ n5_ n6_ n7_ n8_ n9_; intro HO_251002 HO_259002 HO_268002 HO_299002 BK233 BK250 BK258 BK267 BK298 HB; (try clear hb); (try clear hb2); (try clear hk); (try clear hi)))
       go_ret
       exact ⟨ze, by repeat (first | (with_reducible first | exact HB.out | apply below_alloc | apply pw_below_drewN | apply below_drew1 | refine below_set ?_ GE233.out | refine below_set ?_ GE250.out | refine below_set ?_ GE258.out | refine below_set ?_ GE267.out | refine below_set ?_ GE298.out) | exact HB.out)⟩
end Go.Proofs.Ytidenmcoilmbcaa.QFnExactFlyShift
