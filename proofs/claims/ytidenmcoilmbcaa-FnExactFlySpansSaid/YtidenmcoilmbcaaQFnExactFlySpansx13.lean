/- The walk of what the law FnExactFlySpans reaches: laid by a program of this session (ownprint.py). -/
import Derived.Test.YtidenmcoilmbcaaQFnExactFlySpansx0
import Derived.Test.YtidenmcoilmbcaaQFnExactFlySpansx1
import Derived.Test.YtidenmcoilmbcaaQFnExactFlySpansx2
import Derived.Test.YtidenmcoilmbcaaQFnExactFlySpansx3
import Derived.Test.YtidenmcoilmbcaaQFnExactFlySpansx7
import Derived.Test.YtidenmcoilmbcaaQFnExactFlySpansx11
import Derived.Test.YtidenmcoilmbcaaQFnExactFlySpansx12
namespace Go.Proofs.Ytidenmcoilmbcaa.QFnExactFlySpans
open Go.RowKit Go.Proofs.YtidenmcoilmbcaaW.PrintWords Go.Proofs.YtidenmcoilmbcaaW.PrintLast Go.Proofs.YtidenmcoilmbcaaW.PrintMore Go.Proofs.Ytidenmcoilmbcaa.Z
attribute [local go_sem] max2_int min2_int max_two min_two max_three min_three max_four min_four zdn   -- for this text's walks alone
set_option linter.unusedVariables false
set_option linter.unusedSimpArgs false
mutual
def laws_FnExactFlySpans.j0 : Nat → List (S46) → Bool → List (S46) → Bool → Bool → Int → Int → List (S104) → Int → Int → Int → Int → List (S88) → Int → Int → Option (Bool)
 | 0, _, _, _, _, _, _, _, _, _, _, _, _, _, _, _ => none
 | k + 1, x4, x5, x7, x8, x40, x288000, x288001, x288002, x288003, x288004, x308000, x308001, x308002, x308003, x308004 => if x40 = true then (some false) else ((laws_toFlyPath.f k x288000 x288001 x288002 x288003 x288004).bind fun bt313 => ((laws_eqFlyPath.f k x308000 x308001 x308002 x308003 x308004 bt313.1 bt313.2.1 bt313.2.2.1 bt313.2.2.2.1 bt313.2.2.2.2).bind fun t320 => (if t320 = true then ((laws_markFlyPath.f k x308000 x308001 x308002 x308003 x308004 1).bind fun bt321 => (if bt321.1 < 0 then (laws_FnExactFlySpans.j1 k x4 x5 x7 true x288000 x288001 x288002 x288003 x288004) else ((laws_eqFlySpanS.f k x7 x4).bind fun t323 => (if t323 = true then (laws_FnExactFlySpans.j1 k x4 x5 x7 (x8 != x5) x288000 x288001 x288002 x288003 x288004) else (laws_FnExactFlySpans.j1 k x4 x5 x7 true x288000 x288001 x288002 x288003 x288004))))) else (some false))))
def laws_FnExactFlySpans.j1 : Nat → List (S46) → Bool → List (S46) → Bool → Int → Int → List (S104) → Int → Int → Option (Bool)
 | 0, _, _, _, _, _, _, _, _, _ => none
 | k + 1, x4, x5, x7, x61, x288000, x288001, x288002, x288003, x288004 => if x61 = true then (some false) else ((laws_markFlySpanS.f k x7 1).bind fun bt324 => ((laws_heldFlySpanS.f k bt324.2 1).bind fun t326 => (if t326 < 0 then (some false) else (if t326 = bt324.1 then ((laws_toFlyPath.f k x288000 x288001 x288002 x288003 x288004).bind fun bt327 => ((impl_FlySpans.f k bt327.1 bt327.2.1 bt327.2.2.1 bt327.2.2.2.1 bt327.2.2.2.2).bind fun bt334 => ((laws_eqFlySpanS.f k bt334.1 x4).bind fun t338 => (if t338 = true then (laws_FnExactFlySpans.j2 k bt324.2 bt324.1 (bt334.2 != x5)) else (laws_FnExactFlySpans.j2 k bt324.2 bt324.1 true))))) else (some false)))))
def laws_FnExactFlySpans.j2 : Nat → List (S46) → Int → Bool → Option (Bool)
 | 0, _, _, _ => none
 | k + 1, x7, x10, x87 => if x87 = true then (some false) else ((laws_heldFlySpanS.f k x7 1).bind fun t339 => (if t339 < 0 then (some false) else (if t339 = x10 then (some true) else (some false))))
end
def laws_FnExactFlySpans.f (k : Nat) (a0_0 : Int) (a0_1 : Int) (l0_2 : List (S104)) (a0_3 : Int) (a0_4 : Int) : Option (Bool) := (laws_szFlyPath.f a0_0 a0_1 l0_2 a0_3 a0_4 1048576).bind fun t288 => (if t288 < 0 then (some true) else ((laws_toFlyPath.f k a0_0 a0_1 l0_2 a0_3 a0_4).bind fun bt289 => ((spec_FlySpans.f k bt289.1 bt289.2.1 bt289.2.2.1 bt289.2.2.2.1 bt289.2.2.2.2).bind fun bt296 => ((laws_toFlyPath.f k a0_0 a0_1 l0_2 a0_3 a0_4).bind fun bt300 => ((impl_FlySpans.f k bt300.1 bt300.2.1 bt300.2.2.1 bt300.2.2.2.1 bt300.2.2.2.2).bind fun bt308 => ((laws_eqFlySpanS.f k bt308.1 bt296.1).bind fun t312 => (if t312 = true then (laws_FnExactFlySpans.j0 k bt296.1 bt296.2 bt308.1 bt308.2 (bt308.2 != bt296.2) a0_0 a0_1 l0_2 a0_3 a0_4 bt300.1 bt300.2.1 bt300.2.2.1 bt300.2.2.2.1 bt300.2.2.2.2) else (laws_FnExactFlySpans.j0 k bt296.1 bt296.2 bt308.1 bt308.2 true a0_0 a0_1 l0_2 a0_3 a0_4 bt300.1 bt300.2.1 bt300.2.2.1 bt300.2.2.2.1 bt300.2.2.2.2))))))))
set_option maxHeartbeats 8000000 in
set_option maxRecDepth 100000 in
theorem laws_FnExactFlySpans.calls (k : Nat) (a0_0 : Int) (a0_1 : Int) (A0_2 : Option Addr) (c0_2 : Nat) (l0_2 : List (S104)) (a0_3 : Int) (a0_4 : Int) (r : Bool) (w : World) (hr0_2 : Kd.C k104 w A0_2 l0_2.length l0_2) (hc0_2 : l0_2.length ≤ c0_2) (h : laws_FnExactFlySpans.f k a0_0 a0_1 l0_2 a0_3 a0_4 = some r) :
 Calls Try.prog 11 #[.agg #[.int .i64 a0_0, .int .i64 a0_1, .slice A0_2 l0_2.length c0_2, .int .i64 a0_3, .int .i64 a0_4]] w fun e w' => e = .returned (.bool r) ∧ Below w.heap.size w w' := by
 have hu26 := Try.underlying26
 have hu34 := Try.underlying34
 have HR0_2 := Aside0.mk hr0_2
 have HC0_2 := Aside0.mk hc0_2
 clear hr0_2 hc0_2
 have HB := Aside0.mk (Below.refl w.heap.size w)
 have H : ((laws_szFlyPath.f a0_0 a0_1 l0_2 a0_3 a0_4 1048576).bind fun t288 => (if t288 < 0 then (some true) else ((laws_toFlyPath.f k a0_0 a0_1 l0_2 a0_3 a0_4).bind fun bt289 => ((spec_FlySpans.f k bt289.1 bt289.2.1 bt289.2.2.1 bt289.2.2.2.1 bt289.2.2.2.2).bind fun bt296 => ((laws_toFlyPath.f k a0_0 a0_1 l0_2 a0_3 a0_4).bind fun bt300 => ((impl_FlySpans.f k bt300.1 bt300.2.1 bt300.2.2.1 bt300.2.2.2.1 bt300.2.2.2.2).bind fun bt308 => ((laws_eqFlySpanS.f k bt308.1 bt296.1).bind fun t312 => (if t312 = true then (laws_FnExactFlySpans.j0 k bt296.1 bt296.2 bt308.1 bt308.2 (bt308.2 != bt296.2) a0_0 a0_1 l0_2 a0_3 a0_4 bt300.1 bt300.2.1 bt300.2.2.1 bt300.2.2.2.1 bt300.2.2.2.2) else (laws_FnExactFlySpans.j0 k bt296.1 bt296.2 bt308.1 bt308.2 true a0_0 a0_1 l0_2 a0_3 a0_4 bt300.1 bt300.2.1 bt300.2.2.1 bt300.2.2.2.1 bt300.2.2.2.2))))))))) = some r := h
 clear h
 replace H := Option.bind_eq_some_iff.mp H
 obtain ⟨t288, A20, H⟩ := H
 replace H : (if t288 < 0 then (some true) else ((laws_toFlyPath.f k a0_0 a0_1 l0_2 a0_3 a0_4).bind fun bt289 => ((spec_FlySpans.f k bt289.1 bt289.2.1 bt289.2.2.1 bt289.2.2.2.1 bt289.2.2.2.2).bind fun bt296 => ((laws_toFlyPath.f k a0_0 a0_1 l0_2 a0_3 a0_4).bind fun bt300 => ((impl_FlySpans.f k bt300.1 bt300.2.1 bt300.2.2.1 bt300.2.2.2.1 bt300.2.2.2.2).bind fun bt308 => ((laws_eqFlySpanS.f k bt308.1 bt296.1).bind fun t312 => (if t312 = true then (laws_FnExactFlySpans.j0 k bt296.1 bt296.2 bt308.1 bt308.2 (bt308.2 != bt296.2) a0_0 a0_1 l0_2 a0_3 a0_4 bt300.1 bt300.2.1 bt300.2.2.1 bt300.2.2.2.1 bt300.2.2.2.2) else (laws_FnExactFlySpans.j0 k bt296.1 bt296.2 bt308.1 bt308.2 true a0_0 a0_1 l0_2 a0_3 a0_4 bt300.1 bt300.2.1 bt300.2.2.1 bt300.2.2.2.1 bt300.2.2.2.2)))))))) = some r := H
 have A2 := Aside0.mk A20
 clear A20
 by_cases c3 : t288 < 0
 ·rw [if_pos c3] at H
  have c3b0 : decide (t288 < 0) = true := decide_eq_true c3
  clear c3
  obtain rfl := Option.some.inj H
  go_enter Try.func11, Try.ntmps11
  go_wp2_with (first | ((with_reducible refine gate_dst (N := 1) rfl ?_); refine box_event (by rfl) (N := 1) (by rfl) (cs := #[.int .i64 a0_0, .int .i64 a0_1, .slice A0_2 l0_2.length c0_2, .int .i64 a0_3, .int .i64 a0_4]) (t := 26) zg ?_; intro gb287 hg w4 hbox hb; have n0_ := Aside0.mk (below_step (zs0 HB) hb); have n1_ := Aside0.mk (hbox); have n2_ := Aside0.mk ((by rw [hg]; exact (below_size (zs0 HB)) : w.heap.size ≤ gb287)); have n3_ := Aside0.mk ((by rw [hg]; exact (below_size (zs0 HB)) : w.heap.size ≤ gb287)); clear HB; have HB := n0_; have BK287 := n1_; have GW287 := n2_; have GE287 := n3_; clear n0_ n1_ n2_ n3_; clear hb hbox hg; obtain ⟨hcz5_0, hcz5_1, hcz5_2, hcz5_3, hcz5_4⟩ := zd5 BK287; obtain ⟨hfz5_0, hfz5_1, hfz5_2, hfz5_3, hfz5_4⟩ := zn5 BK287) | ((with_reducible refine gate_callee (f := 15) rfl ?_); refine goesL_ (some 16) rfl rfl Try.func15 (by kernel_rfl) rfl #[.agg #[.int .i64 a0_0, .int .i64 a0_1, .slice A0_2 l0_2.length c0_2, .int .i64 a0_3, .int .i64 a0_4], .int .i64 1048576] rfl zl ?_; (with_reducible refine (laws_szFlyPath.calls a0_0 a0_1 _ _ l0_2 a0_3 a0_4 1048576 t288 _ ?side1 ?side2 A2.out).mono ?_); (case side1 => exact zC HR0_2 HB); (case side2 => exact HC0_2.out); rintro e w6 ⟨rfl, hb⟩; refine ⟨_, rfl, ?_⟩; have n0_ := zb BK287 hb; have n1_ := Aside0.mk (below_step (zs1 HB GE287) hb); clear BK287 HB; revert n0_ n1_; intro BK287 HB; (try clear hb); (try clear hb2); (try clear hk); (try clear hi)))
  go_ret
  exact ⟨ze, zs1 HB GE287⟩
 rw [if_neg c3] at H
 have c3b0 : decide (t288 < 0) = false := decide_eq_false c3
 clear c3
 replace H := Option.bind_eq_some_iff.mp H
 obtain ⟨⟨t289, t290, t291, t294, t295⟩, A70, H⟩ := H
 replace H : ((spec_FlySpans.f k t289 t290 t291 t294 t295).bind fun bt296 => ((laws_toFlyPath.f k a0_0 a0_1 l0_2 a0_3 a0_4).bind fun bt300 => ((impl_FlySpans.f k bt300.1 bt300.2.1 bt300.2.2.1 bt300.2.2.2.1 bt300.2.2.2.2).bind fun bt308 => ((laws_eqFlySpanS.f k bt308.1 bt296.1).bind fun t312 => (if t312 = true then (laws_FnExactFlySpans.j0 k bt296.1 bt296.2 bt308.1 bt308.2 (bt308.2 != bt296.2) a0_0 a0_1 l0_2 a0_3 a0_4 bt300.1 bt300.2.1 bt300.2.2.1 bt300.2.2.2.1 bt300.2.2.2.2) else (laws_FnExactFlySpans.j0 k bt296.1 bt296.2 bt308.1 bt308.2 true a0_0 a0_1 l0_2 a0_3 a0_4 bt300.1 bt300.2.1 bt300.2.2.1 bt300.2.2.2.1 bt300.2.2.2.2)))))) = some r := H
 have A7 := Aside0.mk A70
 clear A70
 replace H := Option.bind_eq_some_iff.mp H
 obtain ⟨⟨t296, t299⟩, A80, H⟩ := H
 replace H : ((laws_toFlyPath.f k a0_0 a0_1 l0_2 a0_3 a0_4).bind fun bt300 => ((impl_FlySpans.f k bt300.1 bt300.2.1 bt300.2.2.1 bt300.2.2.2.1 bt300.2.2.2.2).bind fun bt308 => ((laws_eqFlySpanS.f k bt308.1 t296).bind fun t312 => (if t312 = true then (laws_FnExactFlySpans.j0 k t296 t299 bt308.1 bt308.2 (bt308.2 != t299) a0_0 a0_1 l0_2 a0_3 a0_4 bt300.1 bt300.2.1 bt300.2.2.1 bt300.2.2.2.1 bt300.2.2.2.2) else (laws_FnExactFlySpans.j0 k t296 t299 bt308.1 bt308.2 true a0_0 a0_1 l0_2 a0_3 a0_4 bt300.1 bt300.2.1 bt300.2.2.1 bt300.2.2.2.1 bt300.2.2.2.2))))) = some r := H
 have A8 := Aside0.mk A80
 clear A80
 replace H := Option.bind_eq_some_iff.mp H
 obtain ⟨⟨t300, t301, t302, t305, t306⟩, A90, H⟩ := H
 replace H : ((impl_FlySpans.f k t300 t301 t302 t305 t306).bind fun bt308 => ((laws_eqFlySpanS.f k bt308.1 t296).bind fun t312 => (if t312 = true then (laws_FnExactFlySpans.j0 k t296 t299 bt308.1 bt308.2 (bt308.2 != t299) a0_0 a0_1 l0_2 a0_3 a0_4 t300 t301 t302 t305 t306) else (laws_FnExactFlySpans.j0 k t296 t299 bt308.1 bt308.2 true a0_0 a0_1 l0_2 a0_3 a0_4 t300 t301 t302 t305 t306)))) = some r := H
 have A9 := Aside0.mk A90
 clear A90
 replace H := Option.bind_eq_some_iff.mp H
 obtain ⟨⟨t308, t311⟩, A100, H⟩ := H
 replace H : ((laws_eqFlySpanS.f k t308 t296).bind fun t312 => (if t312 = true then (laws_FnExactFlySpans.j0 k t296 t299 t308 t311 (t311 != t299) a0_0 a0_1 l0_2 a0_3 a0_4 t300 t301 t302 t305 t306) else (laws_FnExactFlySpans.j0 k t296 t299 t308 t311 true a0_0 a0_1 l0_2 a0_3 a0_4 t300 t301 t302 t305 t306))) = some r := H
 have A10 := Aside0.mk A100
 clear A100
 have HC11 := Aside0.mk H
 clear H
 go_enter Try.func11, Try.ntmps11
 go_upto_region 8 with (first | ((with_reducible refine gate_dst (N := 1) rfl ?_); refine box_event (by rfl) (N := 1) (by rfl) (cs := #[.int .i64 a0_0, .int .i64 a0_1, .slice A0_2 l0_2.length c0_2, .int .i64 a0_3, .int .i64 a0_4]) (t := 26) zg ?_; intro gb287 hg w12 hbox hb; have n0_ := Aside0.mk (below_step (zs0 HB) hb); have n1_ := Aside0.mk (hbox); have n2_ := Aside0.mk ((by rw [hg]; exact (below_size (zs0 HB)) : w.heap.size ≤ gb287)); have n3_ := Aside0.mk ((by rw [hg]; exact (below_size (zs0 HB)) : w.heap.size ≤ gb287)); clear HB; have HB := n0_; have BK287 := n1_; have GW287 := n2_; have GE287 := n3_; clear n0_ n1_ n2_ n3_; clear hb hbox hg; obtain ⟨hcz13_0, hcz13_1, hcz13_2, hcz13_3, hcz13_4⟩ := zd5 BK287; obtain ⟨hfz13_0, hfz13_1, hfz13_2, hfz13_3, hfz13_4⟩ := zn5 BK287) | ((with_reducible refine gate_callee (f := 15) rfl ?_); refine goesL_ (some 16) rfl rfl Try.func15 (by kernel_rfl) rfl #[.agg #[.int .i64 a0_0, .int .i64 a0_1, .slice A0_2 l0_2.length c0_2, .int .i64 a0_3, .int .i64 a0_4], .int .i64 1048576] rfl zl ?_; (with_reducible refine (laws_szFlyPath.calls a0_0 a0_1 _ _ l0_2 a0_3 a0_4 1048576 t288 _ ?side1 ?side2 A2.out).mono ?_); (case side1 => exact zC HR0_2 HB); (case side2 => exact HC0_2.out); rintro e w14 ⟨rfl, hb⟩; refine ⟨_, rfl, ?_⟩; have n0_ := zb BK287 hb; have n1_ := Aside0.mk (below_step (zs1 HB GE287) hb); clear BK287 HB; revert n0_ n1_; intro BK287 HB; (try clear hb); (try clear hb2); (try clear hk); (try clear hi); obtain ⟨hcz15_0, hcz15_1, hcz15_2, hcz15_3, hcz15_4⟩ := zd5 BK287; obtain ⟨hfz15_0, hfz15_1, hfz15_2, hfz15_3, hfz15_4⟩ := zn5 BK287) | ((with_reducible refine gate_callee (f := 17) rfl ?_); refine goesL_ (some 21) rfl rfl Try.func17 (by kernel_rfl) rfl #[.agg #[.int .i64 a0_0, .int .i64 a0_1, .slice A0_2 l0_2.length c0_2, .int .i64 a0_3, .int .i64 a0_4]] rfl zl ?_; (with_reducible refine (laws_toFlyPath.calls k a0_0 a0_1 _ _ l0_2 a0_3 a0_4 t289 t290 t291 t294 t295 _ ?side1 ?side2 A7.out).mono ?_); (case side1 => exact zC HR0_2 HB); (case side2 => exact HC0_2.out); rintro e w16 ⟨v292, rfl, ho0, hb⟩; refine ⟨_, rfl, ?_⟩; have n0_ := Aside0.mk (Kd.R_lower ho0 (below_size (zs1 HB GE287))); have n1_ := zb BK287 hb; have n2_ := Aside0.mk (below_step (zs1 HB GE287) hb); clear BK287; clear HB; have HO293 := n0_; have BK287 := n1_; have HB := n2_; clear n0_ n1_ n2_; (try clear hb); (try clear hb2); (try clear hk); (try clear hi); (try clear ho0); obtain ⟨Ao17, co17, eo17⟩ := Kd.R_slice HO293.out; subst eo17) | ((with_reducible refine gate_callee (f := 42) rfl ?_); refine goesL_ (some 22) rfl rfl Try.func42 (by kernel_rfl) rfl #[.agg #[.int .i64 t289, .int .i64 t290, .slice Ao17 t291.length co17, .int .i64 t294, .int .i64 t295]] rfl zl ?_; (with_reducible refine (spec_FlySpans.calls k t289 t290 _ _ t291 t294 t295 t296 t299 _ ?side1 ?side2 A8.out).mono ?_); (case side1 => repeat (first | exact (Kd.R_reads' HO293.out).2.2 | (with_reducible refine Kd.C_alloc ?_ _) | (with_reducible refine Kd.C_drewN ?_ _) | (with_reducible refine Kd.C_drew ?_))); (case side2 => exact (Kd.R_reads' HO293.out).2.1); rintro e w18 ⟨v297, rfl, ho0, hb⟩; refine ⟨_, rfl, ?_⟩; have n0_ := Aside0.mk (Kd.R_below (zr HO293) hb); have n1_ := Aside0.mk (Kd.R_lower ho0 (below_size (zs1 HB GE287))); have n2_ := zb BK287 hb; have n3_ := Aside0.mk (below_step (zs1 HB GE287) hb); clear HO293; clear BK287; clear HB; have HO293 := n0_; have HO298 := n1_; have BK287 := n2_; have HB := n3_; clear n0_ n1_ n2_ n3_; (try clear hb); (try clear hb2); (try clear hk); (try clear hi); (try clear ho0); obtain ⟨hcz19_0, hcz19_1, hcz19_2, hcz19_3, hcz19_4⟩ := zd5 BK287; obtain ⟨hfz19_0, hfz19_1, hfz19_2, hfz19_3, hfz19_4⟩ := zn5 BK287) | ((with_reducible refine gate_callee (f := 17) rfl ?_); refine goesL_ (some 26) rfl rfl Try.func17 (by kernel_rfl) rfl #[.agg #[.int .i64 a0_0, .int .i64 a0_1, .slice A0_2 l0_2.length c0_2, .int .i64 a0_3, .int .i64 a0_4]] rfl zl ?_; (with_reducible refine (laws_toFlyPath.calls k a0_0 a0_1 _ _ l0_2 a0_3 a0_4 t300 t301 t302 t305 t306 _ ?side1 ?side2 A9.out).mono ?_); (case side1 => exact zC HR0_2 HB); (case side2 => exact HC0_2.out); rintro e w20 ⟨v303, rfl, ho0, hb⟩; refine ⟨_, rfl, ?_⟩; have n0_ := Aside0.mk (Kd.R_elder' (zr HO293) (Kd.R_base ho0) hb); have n1_ := Aside0.mk (Kd.R_below (zr HO298) hb); have n2_ := Aside0.mk (Kd.R_lower (Kd.R_new' ho0 (Kd.R_lt (zr HO293))) (below_size (zs1 HB GE287))); have n3_ := zb BK287 hb; have n4_ := Aside0.mk (below_step (zs1 HB GE287) hb); clear HO293; clear HO298; clear BK287; clear HB; have HO293 := n0_; have HO298 := n1_; have HO304 := n2_; have BK287 := n3_; have HB := n4_; clear n0_ n1_ n2_ n3_ n4_; (try clear hb); (try clear hb2); (try clear hk); (try clear hi); (try clear ho0)) | ((with_reducible refine gate_dst (N := 6) rfl ?_); refine box_event (by rfl) (N := 6) (by rfl) (cs := #[.int .i64 0, .int .i64 0, .slice none 0 0, .int .i64 0, .int .i64 0]) (t := 34) zg ?_; intro gb307 hg w21 hbox hb; have n0_ := Aside0.mk (Kd.R_below (zr HO293) hb); have n1_ := Aside0.mk (Kd.R_below (zr HO298) hb); have n2_ := Aside0.mk (Kd.R_below (zr HO304) hb); have n3_ := zb BK287 hb; have n4_ := Aside0.mk (below_step (zs1 HB GE287) hb); have n5_ := Aside0.mk (hbox); have n6_ := Aside0.mk ((by rw [hg]; exact (below_size (zs1 HB GE287)) : w.heap.size ≤ gb307)); have n7_ := Aside0.mk ((by rw [hg]; exact (below_size (zs1 HB GE287)) : w.heap.size ≤ gb307)); have n8_ := Aside0.mk ((by rw [hg]; exact Nat.ne_of_lt (blk_lt (g := gb287) (o := .cells #[.int .i64 a0_0, .int .i64 a0_1, .slice A0_2 l0_2.length c0_2, .int .i64 a0_3, .int .i64 a0_4] 26 (0, 0)) (zh BK287)) : gb287 ≠ gb307)); have n9_ := Aside0.mk ((by rw [hg]; exact Nat.ne_of_gt (blk_lt (g := gb287) (o := .cells #[.int .i64 a0_0, .int .i64 a0_1, .slice A0_2 l0_2.length c0_2, .int .i64 a0_3, .int .i64 a0_4] 26 (0, 0)) (zh BK287)) : gb307 ≠ gb287)); clear HO293; clear HO298; clear HO304; clear BK287; clear HB; have HO293 := n0_; have HO298 := n1_; have HO304 := n2_; have BK287 := n3_; have HB := n4_; have BK307 := n5_; have GW307 := n6_; have GE307 := n7_; have NB287_307 := n8_; have NB307_287 := n9_; clear n0_ n1_ n2_ n3_ n4_ n5_ n6_ n7_ n8_ n9_; clear hb hbox hg; have hnb22 := NB307_287.out; have hnc22 := NB287_307.out; obtain ⟨hcz23_0, hcz23_1, hcz23_2, hcz23_3, hcz23_4⟩ := zd5 BK307; obtain ⟨hfz23_0, hfz23_1, hfz23_2, hfz23_3, hfz23_4⟩ := zn5 BK307; obtain ⟨Ao24, co24, eo24⟩ := Kd.R_slice HO304.out; subst eo24) | ((with_reducible refine gate_callee (f := 43) rfl ?_); refine goesL_ (some 29) rfl rfl Try.func43 (by kernel_rfl) rfl #[.agg #[.int .i64 t300, .int .i64 t301, .slice Ao24 t302.length co24, .int .i64 t305, .int .i64 t306]] rfl zl ?_; (with_reducible refine (impl_FlySpans.calls k t300 t301 _ _ t302 t305 t306 t308 t311 _ ?side1 ?side2 A10.out).mono ?_); (case side1 => refine (Kd.R_reads' (e := 88) (base := w.heap.size) (ok := fun k_ => (True ∧ some k_ ≠ (.slice Ao17 t291.length co17 : Value).ownBlock)) (n := t302.length) (c := co24) ?_).2.2; exact (by (with_reducible repeat (first | apply Kd.R_alloc | apply Kd.R_drewN | apply Kd.R_drew)); exact (Kd.R_mono (Kd.R_far (p := ⟨gb307, 4, none⟩) (Kd.R_far (p := ⟨gb307, 3, none⟩) (Kd.R_far (p := ⟨gb307, 2, none⟩) (Kd.R_far (p := ⟨gb307, 1, none⟩) (Kd.R_far (p := ⟨gb307, 0, none⟩) (Kd.R_types HO304.out BK307.out (by decide)) (fun _ hk => hk.2) (.int .i64 t300)) (fun _ hk => hk.2) (.int .i64 t301)) (fun _ hk => hk.2) (.slice Ao24 t302.length co24)) (fun _ hk => hk.2) (.int .i64 t305)) (fun _ hk => hk.2) (.int .i64 t306)) (fun _ h_ => h_.1)))); (case side2 => exact (Kd.R_reads' HO304.out).2.1); rintro e w25 ⟨v309, rfl, ho0, hb⟩; refine ⟨_, rfl, ?_⟩; have n0_ := Aside0.mk (Kd.R_below (by (with_reducible repeat (first | apply Kd.R_alloc | apply Kd.R_drewN | apply Kd.R_drew)); exact (Kd.R_mono (Kd.R_far (p := ⟨gb307, 4, none⟩) (Kd.R_far (p := ⟨gb307, 3, none⟩) (Kd.R_far (p := ⟨gb307, 2, none⟩) (Kd.R_far (p := ⟨gb307, 1, none⟩) (Kd.R_far (p := ⟨gb307, 0, none⟩) (Kd.R_types HO293.out BK307.out (by decide)) (fun _ hk => hk.2) (.int .i64 t300)) (fun _ hk => hk.2) (.int .i64 t301)) (fun _ hk => hk.2) (.slice Ao24 t302.length co24)) (fun _ hk => hk.2) (.int .i64 t305)) (fun _ hk => hk.2) (.int .i64 t306)) (fun _ h_ => h_.1))) hb); have n1_ := Aside0.mk (Kd.R_elder' (by (with_reducible repeat (first | apply Kd.R_alloc | apply Kd.R_drewN | apply Kd.R_drew)); exact (Kd.R_mono (Kd.R_far (p := ⟨gb307, 4, none⟩) (Kd.R_far (p := ⟨gb307, 3, none⟩) (Kd.R_far (p := ⟨gb307, 2, none⟩) (Kd.R_far (p := ⟨gb307, 1, none⟩) (Kd.R_far (p := ⟨gb307, 0, none⟩) (Kd.R_types HO298.out BK307.out (by decide)) (fun _ hk => hk.2) (.int .i64 t300)) (fun _ hk => hk.2) (.int .i64 t301)) (fun _ hk => hk.2) (.slice Ao24 t302.length co24)) (fun _ hk => hk.2) (.int .i64 t305)) (fun _ hk => hk.2) (.int .i64 t306)) (fun _ h_ => h_.1))) (Kd.R_base ho0) hb); have n2_ := Aside0.mk (Kd.R_below (by (with_reducible repeat (first | apply Kd.R_alloc | apply Kd.R_drewN | apply Kd.R_drew)); exact (Kd.R_mono (Kd.R_far (p := ⟨gb307, 4, none⟩) (Kd.R_far (p := ⟨gb307, 3, none⟩) (Kd.R_far (p := ⟨gb307, 2, none⟩) (Kd.R_far (p := ⟨gb307, 1, none⟩) (Kd.R_far (p := ⟨gb307, 0, none⟩) (Kd.R_types HO304.out BK307.out (by decide)) (fun _ hk => hk.2) (.int .i64 t300)) (fun _ hk => hk.2) (.int .i64 t301)) (fun _ hk => hk.2) (.slice Ao24 t302.length co24)) (fun _ hk => hk.2) (.int .i64 t305)) (fun _ hk => hk.2) (.int .i64 t306)) (fun _ h_ => h_.1))) hb); have n3_ := Aside0.mk (Kd.R_lower (Kd.R_new' ho0 (Kd.R_lt (by (with_reducible repeat (first | apply Kd.R_alloc | apply Kd.R_drewN | apply Kd.R_drew)); exact (Kd.R_mono (Kd.R_far (p := ⟨gb307, 4, none⟩) (Kd.R_far (p := ⟨gb307, 3, none⟩) (Kd.R_far (p := ⟨gb307, 2, none⟩) (Kd.R_far (p := ⟨gb307, 1, none⟩) (Kd.R_far (p := ⟨gb307, 0, none⟩) (Kd.R_types HO298.out BK307.out (by decide)) (fun _ hk => hk.2) (.int .i64 t300)) (fun _ hk => hk.2) (.int .i64 t301)) (fun _ hk => hk.2) (.slice Ao24 t302.length co24)) (fun _ hk => hk.2) (.int .i64 t305)) (fun _ hk => hk.2) (.int .i64 t306)) (fun _ h_ => h_.1))))) (below_size (zs2 HB GE287 GE307))); have n4_ := Aside0.mk (blk_below (g := gb287) (o := .cells #[.int .i64 a0_0, .int .i64 a0_1, .slice A0_2 l0_2.length c0_2, .int .i64 a0_3, .int .i64 a0_4] 26 (0, 0)) (by (with_reducible repeat (first | refine blk_drewN ?_ _ | refine blk_drew ?_ | refine blk_alloc ?_ _)); refine blk_far ?_ NB287_307.out _; (with_reducible repeat (first | refine blk_drewN ?_ _ | refine blk_drew ?_ | refine blk_alloc ?_ _)); refine blk_far ?_ NB287_307.out _; (with_reducible repeat (first | refine blk_drewN ?_ _ | refine blk_drew ?_ | refine blk_alloc ?_ _)); refine blk_far ?_ NB287_307.out _; (with_reducible repeat (first | refine blk_drewN ?_ _ | refine blk_drew ?_ | refine blk_alloc ?_ _)); refine blk_far ?_ NB287_307.out _; (with_reducible repeat (first | refine blk_drewN ?_ _ | refine blk_drew ?_ | refine blk_alloc ?_ _)); refine blk_far ?_ NB287_307.out _; (with_reducible repeat (first | refine blk_drewN ?_ _ | refine blk_drew ?_ | refine blk_alloc ?_ _)); exact BK287.out) hb); have n5_ := Aside0.mk (blk_below (g := gb307) (o := .cells #[.int .i64 t300, .int .i64 t301, .slice Ao24 t302.length co24, .int .i64 t305, .int .i64 t306] 34 (0, 0)) (by (with_reducible repeat (first | refine blk_drewN ?_ _ | refine blk_drew ?_ | refine blk_alloc ?_ _)); refine blk_put (cs := #[.int .i64 t300, .int .i64 t301, .slice Ao24 t302.length co24, .int .i64 t305, .int .i64 0]) ?_ 4 _ rfl; (with_reducible repeat (first | refine blk_drewN ?_ _ | refine blk_drew ?_ | refine blk_alloc ?_ _)); refine blk_put (cs := #[.int .i64 t300, .int .i64 t301, .slice Ao24 t302.length co24, .int .i64 0, .int .i64 0]) ?_ 3 _ rfl; (with_reducible repeat (first | refine blk_drewN ?_ _ | refine blk_drew ?_ | refine blk_alloc ?_ _)); refine blk_put (cs := #[.int .i64 t300, .int .i64 t301, .slice none 0 0, .int .i64 0, .int .i64 0]) ?_ 2 _ rfl; (with_reducible repeat (first | refine blk_drewN ?_ _ | refine blk_drew ?_ | refine blk_alloc ?_ _)); refine blk_put (cs := #[.int .i64 t300, .int .i64 0, .slice none 0 0, .int .i64 0, .int .i64 0]) ?_ 1 _ rfl; (with_reducible repeat (first | refine blk_drewN ?_ _ | refine blk_drew ?_ | refine blk_alloc ?_ _)); refine blk_put (cs := #[.int .i64 0, .int .i64 0, .slice none 0 0, .int .i64 0, .int .i64 0]) ?_ 0 _ rfl; (with_reducible repeat (first | refine blk_drewN ?_ _ | refine blk_drew ?_ | refine blk_alloc ?_ _)); exact BK307.out) hb); have n6_ := Aside0.mk (below_step (zs2 HB GE287 GE307) hb); clear HO293; clear HO298; clear HO304; clear BK287; clear BK307; clear HB; have HO293 := n0_; have HO298 := n1_; have HO304 := n2_; have HO310 := n3_; have BK287 := n4_; have BK307 := n5_; have HB := n6_; clear n0_ n1_ n2_ n3_ n4_ n5_ n6_; (try clear hb); (try clear hb2); (try clear hk); (try clear hi); (try clear ho0)))
 (try simp only [Act.put, List.setIfInBounds_toArray, List.set_cons_zero, List.set_cons_succ])
 go_cut [40] (fun v40 wc => ∃ (kq : Nat) (x40_10 : Bool), v40 = .bool x40_10 ∧ Aside0 (laws_FnExactFlySpans.j0 kq t296 t299 t308 t311 x40_10 a0_0 a0_1 l0_2 a0_3 a0_4 t300 t301 t302 t305 t306 = some r) ∧ Aside0 (kq ≤ k) ∧ Aside0 (Kd.R k46 46 wc w.heap.size (fun k_ => some k_ ≠ (v309 : Value).ownBlock) v297 t296) ∧ Aside0 (Kd.R k46 46 wc w.heap.size (fun k_ => some k_ ≠ (v297 : Value).ownBlock) v309 t308) ∧ Aside0 (Kd.R k88 88 wc w.heap.size (fun _ => True) (.slice Ao24 t302.length co24) t302) ∧ Aside0 (wc.heap[gb287]? = some (.cells #[.int .i64 a0_0, .int .i64 a0_1, (.slice A0_2 l0_2.length c0_2), .int .i64 a0_3, .int .i64 a0_4] 26 (0, 0))) ∧ Aside0 (wc.heap[gb307]? = some (.cells #[.int .i64 t300, .int .i64 t301, (.slice Ao24 t302.length co24), .int .i64 t305, .int .i64 t306] 34 (0, 0))) ∧ Aside0 (Below w.heap.size w wc))
 case first =>
  have H := HC11.out
  clear HC11
  replace H := Option.bind_eq_some_iff.mp H
  obtain ⟨t312, A260, H⟩ := H
  replace H : (if t312 = true then (laws_FnExactFlySpans.j0 k t296 t299 t308 t311 (t311 != t299) a0_0 a0_1 l0_2 a0_3 a0_4 t300 t301 t302 t305 t306) else (laws_FnExactFlySpans.j0 k t296 t299 t308 t311 true a0_0 a0_1 l0_2 a0_3 a0_4 t300 t301 t302 t305 t306)) = some r := H
  have A26 := Aside0.mk A260
  clear A260
  by_cases c27 : t312 = true
  ·subst c27
   have H1 : (laws_FnExactFlySpans.j0 k t296 t299 t308 t311 (t311 != t299) a0_0 a0_1 l0_2 a0_3 a0_4 t300 t301 t302 t305 t306) = some r := by rw [if_pos rfl] at H; exact H
   clear H
   have H := H1
   clear H1
   have H' := Aside0.mk H
   clear H
   obtain ⟨Ao28, co28, eo28⟩ := Kd.R_slice HO310.out
   subst eo28
   obtain ⟨Ao29, co29, eo29⟩ := Kd.R_slice HO298.out
   subst eo29
   go_wp2_with (first | ((with_reducible refine gate_callee (f := 44) rfl ?_); refine goesL_ (some 34) rfl rfl Try.func44 (by kernel_rfl) rfl #[.slice Ao28 t308.length co28, .slice Ao29 t296.length co29] rfl zl ?_; (with_reducible refine (laws_eqFlySpanS.calls k _ _ t308 _ _ t296 true _ ?side1 ?side2 ?side3 ?side4 A26.out).mono ?_); (case side1 => repeat (first | exact (Kd.R_reads' HO310.out).2.2 | (with_reducible refine Kd.C_alloc ?_ _) | (with_reducible refine Kd.C_drewN ?_ _) | (with_reducible refine Kd.C_drew ?_))); (case side2 => exact (Kd.R_reads' HO310.out).2.1); (case side3 => repeat (first | exact (Kd.R_reads' HO298.out).2.2 | (with_reducible refine Kd.C_alloc ?_ _) | (with_reducible refine Kd.C_drewN ?_ _) | (with_reducible refine Kd.C_drew ?_))); (case side4 => exact (Kd.R_reads' HO298.out).2.1); rintro e w30 ⟨rfl, hb⟩; refine ⟨_, rfl, ?_⟩; have n0_ := Aside0.mk (Kd.R_below (zr HO293) hb); have n1_ := Aside0.mk (Kd.R_below (zr HO298) hb); have n2_ := Aside0.mk (Kd.R_below (zr HO304) hb); have n3_ := Aside0.mk (Kd.R_below (zr HO310) hb); have n4_ := zb BK287 hb; have n5_ := zb BK307 hb; have n6_ := Aside0.mk (below_step (zs2 HB GE287 GE307) hb); clear HO293 HO298 HO304 HO310 BK287 BK307 HB; revert n0_ n1_ n2_ n3_ n4_ n5_ n6_; intro HO293 HO298 HO304 HO310 BK287 BK307 HB; (try clear hb); (try clear hb2); (try clear hk); (try clear hi)))
   go_meet
   case rel => exact ⟨_, ((t311 != t299)), zi, H', ⟨by first | omega | exact Nat.le_refl _⟩, ⟨by (with_reducible repeat (first | apply Kd.R_alloc | apply Kd.R_drewN | apply Kd.R_drew)); exact Kd.R_mono HO298.out (fun _ hk => hk.2)⟩, ⟨by (with_reducible repeat (first | apply Kd.R_alloc | apply Kd.R_drewN | apply Kd.R_drew)); exact Kd.R_mono HO310.out (fun _ hk => hk.2)⟩, ⟨by (with_reducible repeat (first | apply Kd.R_alloc | apply Kd.R_drewN | apply Kd.R_drew)); exact Kd.R_mono HO304.out (fun _ hk => trivial)⟩, ⟨zh BK287⟩, ⟨zh BK307⟩, ⟨zs2 HB GE287 GE307⟩⟩
  replace c27 := Bool.eq_false_iff.mpr c27
  subst c27
  have H1 : (laws_FnExactFlySpans.j0 k t296 t299 t308 t311 true a0_0 a0_1 l0_2 a0_3 a0_4 t300 t301 t302 t305 t306) = some r := by rw [if_neg (show ¬ (false = true) by decide)] at H; exact H
  clear H
  have H := H1
  clear H1
  have H' := Aside0.mk H
  clear H
  obtain ⟨Ao31, co31, eo31⟩ := Kd.R_slice HO310.out
  subst eo31
  obtain ⟨Ao32, co32, eo32⟩ := Kd.R_slice HO298.out
  subst eo32
  go_wp2_with (first | ((with_reducible refine gate_callee (f := 44) rfl ?_); refine goesL_ (some 34) rfl rfl Try.func44 (by kernel_rfl) rfl #[.slice Ao31 t308.length co31, .slice Ao32 t296.length co32] rfl zl ?_; (with_reducible refine (laws_eqFlySpanS.calls k _ _ t308 _ _ t296 false _ ?side1 ?side2 ?side3 ?side4 A26.out).mono ?_); (case side1 => repeat (first | exact (Kd.R_reads' HO310.out).2.2 | (with_reducible refine Kd.C_alloc ?_ _) | (with_reducible refine Kd.C_drewN ?_ _) | (with_reducible refine Kd.C_drew ?_))); (case side2 => exact (Kd.R_reads' HO310.out).2.1); (case side3 => repeat (first | exact (Kd.R_reads' HO298.out).2.2 | (with_reducible refine Kd.C_alloc ?_ _) | (with_reducible refine Kd.C_drewN ?_ _) | (with_reducible refine Kd.C_drew ?_))); (case side4 => exact (Kd.R_reads' HO298.out).2.1); rintro e w33 ⟨rfl, hb⟩; refine ⟨_, rfl, ?_⟩; have n0_ := Aside0.mk (Kd.R_below (zr HO293) hb); have n1_ := Aside0.mk (Kd.R_below (zr HO298) hb); have n2_ := Aside0.mk (Kd.R_below (zr HO304) hb); have n3_ := Aside0.mk (Kd.R_below (zr HO310) hb); have n4_ := zb BK287 hb; have n5_ := zb BK307 hb; have n6_ := Aside0.mk (below_step (zs2 HB GE287 GE307) hb); clear HO293 HO298 HO304 HO310 BK287 BK307 HB; revert n0_ n1_ n2_ n3_ n4_ n5_ n6_; intro HO293 HO298 HO304 HO310 BK287 BK307 HB; (try clear hb); (try clear hb2); (try clear hk); (try clear hi)))
  go_meet
  case rel => exact ⟨_, (true), zi, H', ⟨by first | omega | exact Nat.le_refl _⟩, ⟨by (with_reducible repeat (first | apply Kd.R_alloc | apply Kd.R_drewN | apply Kd.R_drew)); exact Kd.R_mono HO298.out (fun _ hk => hk.2)⟩, ⟨by (with_reducible repeat (first | apply Kd.R_alloc | apply Kd.R_drewN | apply Kd.R_drew)); exact Kd.R_mono HO310.out (fun _ hk => hk.2)⟩, ⟨by (with_reducible repeat (first | apply Kd.R_alloc | apply Kd.R_drewN | apply Kd.R_drew)); exact Kd.R_mono HO304.out (fun _ hk => trivial)⟩, ⟨zh BK287⟩, ⟨zh BK307⟩, ⟨zs2 HB GE287 GE307⟩⟩
 case rest =>
  clear HC11
  try clear c1
  try clear c2
  try clear p2
  try clear c3
  try clear c3b0
  try clear c4
  try clear c11
  try clear c15
  try clear c17
  try clear c22
  try clear c27
  try clear hcz13_0
  try clear hcz13_1
  try clear hcz13_2
  try clear hcz13_3
  try clear hcz13_4
  try clear hcz15_0
  try clear hcz15_1
  try clear hcz15_2
  try clear hcz15_3
  try clear hcz15_4
  try clear hcz19_0
  try clear hcz19_1
  try clear hcz19_2
  try clear hcz19_3
  try clear hcz19_4
  try clear hcz23_0
  try clear hcz23_1
  try clear hcz23_2
  try clear hcz23_3
  try clear hcz23_4
  try clear hcz5_0
  try clear hcz5_1
  try clear hcz5_2
  try clear hcz5_3
  try clear hcz5_4
  try clear hfz13_0
  try clear hfz13_1
  try clear hfz13_2
  try clear hfz13_3
  try clear hfz13_4
  try clear hfz15_0
  try clear hfz15_1
  try clear hfz15_2
  try clear hfz15_3
  try clear hfz15_4
  try clear hfz19_0
  try clear hfz19_1
  try clear hfz19_2
  try clear hfz19_3
  try clear hfz19_4
  try clear hfz23_0
  try clear hfz23_1
  try clear hfz23_2
  try clear hfz23_3
  try clear hfz23_4
  try clear hfz5_0
  try clear hfz5_1
  try clear hfz5_2
  try clear hfz5_3
  try clear hfz5_4
  obtain ⟨kq, x40_10, rfl, HA, HJ10, HO_4, HO_7, HO_308002, BK287, BK307, HB⟩ := hcut
  cases kq with
  | zero => exact absurd HA.out (by simp [laws_FnExactFlySpans.j0])
  | succ kj10 =>
   have H := HA.out
   clear HA
   simp only [laws_FnExactFlySpans.j0] at H
   by_cases c34 : x40_10 = true
   ·subst c34
    have H1 : (some false) = some r := by rw [if_pos rfl] at H; exact H
    clear H
    have H := H1
    clear H1
    obtain rfl := Option.some.inj H
    go_wp2
    go_ret
    exact ⟨ze, zs2 HB GE287 GE307⟩
   replace c34 := Bool.eq_false_iff.mpr c34
   subst c34
   have H1 : ((laws_toFlyPath.f kj10 a0_0 a0_1 l0_2 a0_3 a0_4).bind fun bt313 => ((laws_eqFlyPath.f kj10 t300 t301 t302 t305 t306 bt313.1 bt313.2.1 bt313.2.2.1 bt313.2.2.2.1 bt313.2.2.2.2).bind fun t320 => (if t320 = true then ((laws_markFlyPath.f kj10 t300 t301 t302 t305 t306 1).bind fun bt321 => (if bt321.1 < 0 then (laws_FnExactFlySpans.j1 kj10 t296 t299 t308 true a0_0 a0_1 l0_2 a0_3 a0_4) else ((laws_eqFlySpanS.f kj10 t308 t296).bind fun t323 => (if t323 = true then (laws_FnExactFlySpans.j1 kj10 t296 t299 t308 (t311 != t299) a0_0 a0_1 l0_2 a0_3 a0_4) else (laws_FnExactFlySpans.j1 kj10 t296 t299 t308 true a0_0 a0_1 l0_2 a0_3 a0_4))))) else (some false)))) = some r := by rw [if_neg (show ¬ (false = true) by decide)] at H; exact H
   clear H
   have H := H1
   clear H1
   replace H := Option.bind_eq_some_iff.mp H
   obtain ⟨⟨t313, t314, t315, t318, t319⟩, A350, H⟩ := H
   replace H : ((laws_eqFlyPath.f kj10 t300 t301 t302 t305 t306 t313 t314 t315 t318 t319).bind fun t320 => (if t320 = true then ((laws_markFlyPath.f kj10 t300 t301 t302 t305 t306 1).bind fun bt321 => (if bt321.1 < 0 then (laws_FnExactFlySpans.j1 kj10 t296 t299 t308 true a0_0 a0_1 l0_2 a0_3 a0_4) else ((laws_eqFlySpanS.f kj10 t308 t296).bind fun t323 => (if t323 = true then (laws_FnExactFlySpans.j1 kj10 t296 t299 t308 (t311 != t299) a0_0 a0_1 l0_2 a0_3 a0_4) else (laws_FnExactFlySpans.j1 kj10 t296 t299 t308 true a0_0 a0_1 l0_2 a0_3 a0_4))))) else (some false))) = some r := H
   have A35 := Aside0.mk A350
   clear A350
   replace H := Option.bind_eq_some_iff.mp H
   obtain ⟨t320, A360, H⟩ := H
   replace H : (if t320 = true then ((laws_markFlyPath.f kj10 t300 t301 t302 t305 t306 1).bind fun bt321 => (if bt321.1 < 0 then (laws_FnExactFlySpans.j1 kj10 t296 t299 t308 true a0_0 a0_1 l0_2 a0_3 a0_4) else ((laws_eqFlySpanS.f kj10 t308 t296).bind fun t323 => (if t323 = true then (laws_FnExactFlySpans.j1 kj10 t296 t299 t308 (t311 != t299) a0_0 a0_1 l0_2 a0_3 a0_4) else (laws_FnExactFlySpans.j1 kj10 t296 t299 t308 true a0_0 a0_1 l0_2 a0_3 a0_4))))) else (some false)) = some r := H
   have A36 := Aside0.mk A360
   clear A360
   by_cases c37 : t320 = true
   rotate_left
   ·replace c37 := Bool.eq_false_iff.mpr c37
    subst c37
    have H1 : (some false) = some r := by rw [if_neg (show ¬ (false = true) by decide)] at H; exact H
    clear H
    have H := H1
    clear H1
    obtain rfl := Option.some.inj H
    try go_wp2
    have n0_ := Aside0.mk (Kd.R_drew HO_4.out)
    have n1_ := Aside0.mk (Kd.R_drew HO_7.out)
    have n2_ := Aside0.mk (Kd.R_drew HO_308002.out)
    have n3_ := Aside0.mk (blk_drew BK287.out)
    have n4_ := Aside0.mk (blk_drew BK307.out)
    have n5_ := Aside0.mk (below_drew1 HB.out)
    clear HO_4 HO_7 HO_308002 BK287 BK307 HB
    revert n0_ n1_ n2_ n3_ n4_ n5_
    intro HO_4 HO_7 HO_308002 BK287 BK307 HB
    refine start_ (n := 5) (S := fun w' => w'.cell? ⟨gb307, 0, none⟩ = some (.int .i64 t300) ∧ w'.cell? ⟨gb307, 1, none⟩ = some (.int .i64 t301) ∧ w'.cell? ⟨gb307, 2, none⟩ = some (.slice Ao24 t302.length co24) ∧ w'.cell? ⟨gb307, 3, none⟩ = some (.int .i64 t305) ∧ w'.cell? ⟨gb307, 4, none⟩ = some (.int .i64 t306) ∧ w'.cell? ⟨gb287, 0, none⟩ = some (.int .i64 a0_0) ∧ w'.cell? ⟨gb287, 1, none⟩ = some (.int .i64 a0_1) ∧ w'.cell? ⟨gb287, 2, none⟩ = some (.slice A0_2 l0_2.length c0_2) ∧ w'.cell? ⟨gb287, 3, none⟩ = some (.int .i64 a0_3) ∧ w'.cell? ⟨gb287, 4, none⟩ = some (.int .i64 a0_4)) (ds := []) #[false, false, false, false, false] (by kernel_rfl) rfl rfl ⟨(blk_cell BK307.out 0).trans rfl, (blk_cell BK307.out 1).trans rfl, (blk_cell BK307.out 2).trans rfl, (blk_cell BK307.out 3).trans rfl, (blk_cell BK307.out 4).trans rfl, (blk_cell BK287.out 0).trans rfl, (blk_cell BK287.out 1).trans rfl, (blk_cell BK287.out 2).trans rfl, (blk_cell BK287.out 3).trans rfl, (blk_cell BK287.out 4).trans rfl⟩ (fun hHeld => ?_)
    generalize wc.drew = w87 at HO_4 HO_7 HO_308002 BK287 BK307 HB hHeld ⊢
    refine take_ (i := 0) (N := some 41) (v := ?_) (a' := ?_) #[true, false, false, false, false] rfl rfl (by kernel_rfl) (fun _ _ _ h => h) (Or.inl ⟨by rfl, ?_⟩) hHeld ?_ ?_; rotate_left; exact zt10; rotate_left; exact zput
    refine take_ (i := 1) (N := some 42) (v := ?_) (a' := ?_) #[true, true, false, false, false] rfl rfl (by kernel_rfl) (fun _ _ _ h => h) (Or.inl ⟨by rfl, ?_⟩) hHeld ?_ ?_; rotate_left; exact zt10; rotate_left; exact zput
    refine one_ (i := 2) (N := some 43) #[true, true, true, false, false] rfl rfl (by kernel_rfl) (by decide) (fun K hK => ?_)
    refine goes_ Try.func17 (by kernel_rfl) rfl #[.agg #[.int .i64 a0_0, .int .i64 a0_1, .slice A0_2 l0_2.length c0_2, .int .i64 a0_3, .int .i64 a0_4]] (by rfl) rfl rfl zl ?_
    with_reducible refine (laws_toFlyPath.calls kj10 a0_0 a0_1 _ _ l0_2 a0_3 a0_4 t313 t314 t315 t318 t319 _ ?side1 ?side2 A35.out).mono ?_
    (case side1 => exact zC HR0_2 HB)
    (case side2 => exact HC0_2.out)
    rintro e w88 ⟨v316, rfl, ho0, hb⟩
    refine ⟨_, rfl, ?_⟩
    have n0_ := Aside0.mk (Kd.R_below (zr HO_4) hb)
    have n1_ := Aside0.mk (Kd.R_below (zr HO_7) hb)
    have n2_ := Aside0.mk (Kd.R_elder' (zr HO_308002) (Kd.R_base ho0) hb)
    have n3_ := Aside0.mk (Kd.R_lower (Kd.R_new' ho0 (Kd.R_lt (zr HO_308002))) (below_size (zs2 HB GE287 GE307)))
    have n4_ := zb BK287 hb
    have n5_ := zb BK307 hb
    have n6_ := Aside0.mk (below_step (zs2 HB GE287 GE307) hb)
    clear HO_4
    clear HO_7
    clear HO_308002
    clear BK287
    clear BK307
    clear HB
    have HO_4 := n0_
    have HO_7 := n1_
    have HO_308002 := n2_
    have HO317 := n3_
    have BK287 := n4_
    have BK307 := n5_
    have HB := n6_
    clear n0_ n1_ n2_ n3_ n4_ n5_ n6_
    (try clear hb)
    (try clear hb2)
    (try clear hk)
    (try clear hi)
    (try clear ho0)
    obtain ⟨Ao89, co89, eo89⟩ := Kd.R_slice HO317.out
    (first | subst eo89 | (injection eo89 with f1_ f2_ f3_; have f4_ := f1_.symm; have f5_ := f3_.symm; clear f1_ f2_ f3_; subst f4_; subst f5_))
    refine hK.out _ _ ⟨(blk_cell BK307.out 0).trans rfl, (blk_cell BK307.out 1).trans rfl, (blk_cell BK307.out 2).trans rfl, (blk_cell BK307.out 3).trans rfl, (blk_cell BK307.out 4).trans rfl, (blk_cell BK287.out 0).trans rfl, (blk_cell BK287.out 1).trans rfl, (blk_cell BK287.out 2).trans rfl, (blk_cell BK287.out 3).trans rfl, (blk_cell BK287.out 4).trans rfl⟩ (fun hHeld => ?_)
    clear hK K
    refine norm_ (a' := ?_) ?_ ?_
    rotate_left
    ·show Act.put _ (some 43) _ = _
     simp only [Act.put, List.setIfInBounds_toArray, List.set_cons_zero, List.set_cons_succ, i64_w, i32_w]
     rfl
    refine one_ (i := 3) (N := some 44) #[true, true, true, true, false] rfl rfl (by kernel_rfl) (by decide) (fun K hK => ?_)
    refine goes_ Try.func21 (by kernel_rfl) rfl #[.agg #[.int .i64 t300, .int .i64 t301, .slice Ao24 t302.length co24, .int .i64 t305, .int .i64 t306], .agg #[.int .i64 t313, .int .i64 t314, .slice Ao89 t315.length co89, .int .i64 t318, .int .i64 t319]] (by rfl) rfl rfl zl ?_
    with_reducible refine (laws_eqFlyPath.calls kj10 t300 t301 _ _ t302 t305 t306 t313 t314 _ _ t315 t318 t319 false _ ?side1 ?side2 ?side3 ?side4 A36.out).mono ?_
    (case side1 => repeat (first | exact (Kd.R_reads' HO_308002.out).2.2 | (with_reducible refine Kd.C_alloc ?_ _) | (with_reducible refine Kd.C_drewN ?_ _) | (with_reducible refine Kd.C_drew ?_)))
    (case side2 => exact (Kd.R_reads' HO_308002.out).2.1)
    (case side3 => repeat (first | exact (Kd.R_reads' HO317.out).2.2 | (with_reducible refine Kd.C_alloc ?_ _) | (with_reducible refine Kd.C_drewN ?_ _) | (with_reducible refine Kd.C_drew ?_)))
    (case side4 => exact (Kd.R_reads' HO317.out).2.1)
    rintro e w90 ⟨rfl, hb⟩
    refine ⟨_, rfl, ?_⟩
    have n0_ := Aside0.mk (Kd.R_below (zr HO_4) hb)
    have n1_ := Aside0.mk (Kd.R_below (zr HO_7) hb)
    have n2_ := Aside0.mk (Kd.R_below (zr HO_308002) hb)
    have n3_ := Aside0.mk (Kd.R_below (zr HO317) hb)
    have n4_ := zb BK287 hb
    have n5_ := zb BK307 hb
    have n6_ := Aside0.mk (below_step (zs2 HB GE287 GE307) hb)
    clear HO_4 HO_7 HO_308002 HO317 BK287 BK307 HB
    revert n0_ n1_ n2_ n3_ n4_ n5_ n6_
    intro HO_4 HO_7 HO_308002 HO317 BK287 BK307 HB
    (try clear hb)
    (try clear hb2)
    (try clear hk)
    (try clear hi)
    refine hK.out _ _ ⟨(blk_cell BK307.out 0).trans rfl, (blk_cell BK307.out 1).trans rfl, (blk_cell BK307.out 2).trans rfl, (blk_cell BK307.out 3).trans rfl, (blk_cell BK307.out 4).trans rfl, (blk_cell BK287.out 0).trans rfl, (blk_cell BK287.out 1).trans rfl, (blk_cell BK287.out 2).trans rfl, (blk_cell BK287.out 3).trans rfl, (blk_cell BK287.out 4).trans rfl⟩ (fun hHeld => ?_)
    clear hK K
    refine norm_ (a' := ?_) ?_ ?_
    rotate_left
    ·show Act.put _ (some 44) _ = _
     simp only [Act.put, List.setIfInBounds_toArray, List.set_cons_zero, List.set_cons_succ, i64_w, i32_w]
     rfl
    refine pure_ (i := 4) (N := some 45) (v := ?_) (a' := ?_) #[true, true, true, true, true] rfl rfl (by kernel_rfl) (fun _ _ _ h => h) (Or.inl ⟨by rfl, ?_⟩) ?_ ?_; rotate_left; exact zy; rotate_left; exact zput
    refine done_ (by kernel_rfl) ?_
    try go_wp2
    go_ret
    exact ⟨ze, zs2 HB GE287 GE307⟩
   subst c37
   have H1 : ((laws_markFlyPath.f kj10 t300 t301 t302 t305 t306 1).bind fun bt321 => (if bt321.1 < 0 then (laws_FnExactFlySpans.j1 kj10 t296 t299 t308 true a0_0 a0_1 l0_2 a0_3 a0_4) else ((laws_eqFlySpanS.f kj10 t308 t296).bind fun t323 => (if t323 = true then (laws_FnExactFlySpans.j1 kj10 t296 t299 t308 (t311 != t299) a0_0 a0_1 l0_2 a0_3 a0_4) else (laws_FnExactFlySpans.j1 kj10 t296 t299 t308 true a0_0 a0_1 l0_2 a0_3 a0_4))))) = some r := by rw [if_pos rfl] at H; exact H
   clear H
   have H := H1
   clear H1
   replace H := Option.bind_eq_some_iff.mp H
   obtain ⟨⟨t321, t322⟩, A380, H⟩ := H
   replace H : (if t321 < 0 then (laws_FnExactFlySpans.j1 kj10 t296 t299 t308 true a0_0 a0_1 l0_2 a0_3 a0_4) else ((laws_eqFlySpanS.f kj10 t308 t296).bind fun t323 => (if t323 = true then (laws_FnExactFlySpans.j1 kj10 t296 t299 t308 (t311 != t299) a0_0 a0_1 l0_2 a0_3 a0_4) else (laws_FnExactFlySpans.j1 kj10 t296 t299 t308 true a0_0 a0_1 l0_2 a0_3 a0_4)))) = some r := H
   have A38 := Aside0.mk A380
   clear A380
   have HC39 := Aside0.mk H
   clear H
   try go_wp2
   have n0_ := Aside0.mk (Kd.R_drew HO_4.out)
   have n1_ := Aside0.mk (Kd.R_drew HO_7.out)
   have n2_ := Aside0.mk (Kd.R_drew HO_308002.out)
   have n3_ := Aside0.mk (blk_drew BK287.out)
   have n4_ := Aside0.mk (blk_drew BK307.out)
   have n5_ := Aside0.mk (below_drew1 HB.out)
   clear HO_4 HO_7 HO_308002 BK287 BK307 HB
   revert n0_ n1_ n2_ n3_ n4_ n5_
   intro HO_4 HO_7 HO_308002 BK287 BK307 HB
   refine start_ (n := 5) (S := fun w' => w'.cell? ⟨gb307, 0, none⟩ = some (.int .i64 t300) ∧ w'.cell? ⟨gb307, 1, none⟩ = some (.int .i64 t301) ∧ w'.cell? ⟨gb307, 2, none⟩ = some (.slice Ao24 t302.length co24) ∧ w'.cell? ⟨gb307, 3, none⟩ = some (.int .i64 t305) ∧ w'.cell? ⟨gb307, 4, none⟩ = some (.int .i64 t306) ∧ w'.cell? ⟨gb287, 0, none⟩ = some (.int .i64 a0_0) ∧ w'.cell? ⟨gb287, 1, none⟩ = some (.int .i64 a0_1) ∧ w'.cell? ⟨gb287, 2, none⟩ = some (.slice A0_2 l0_2.length c0_2) ∧ w'.cell? ⟨gb287, 3, none⟩ = some (.int .i64 a0_3) ∧ w'.cell? ⟨gb287, 4, none⟩ = some (.int .i64 a0_4)) (ds := []) #[false, false, false, false, false] (by kernel_rfl) rfl rfl ⟨(blk_cell BK307.out 0).trans rfl, (blk_cell BK307.out 1).trans rfl, (blk_cell BK307.out 2).trans rfl, (blk_cell BK307.out 3).trans rfl, (blk_cell BK307.out 4).trans rfl, (blk_cell BK287.out 0).trans rfl, (blk_cell BK287.out 1).trans rfl, (blk_cell BK287.out 2).trans rfl, (blk_cell BK287.out 3).trans rfl, (blk_cell BK287.out 4).trans rfl⟩ (fun hHeld => ?_)
   generalize wc.drew = w40 at HO_4 HO_7 HO_308002 BK287 BK307 HB hHeld ⊢
   refine take_ (i := 0) (N := some 41) (v := ?_) (a' := ?_) #[true, false, false, false, false] rfl rfl (by kernel_rfl) (fun _ _ _ h => h) (Or.inl ⟨by rfl, ?_⟩) hHeld ?_ ?_; rotate_left; exact zt10; rotate_left; exact zput
   refine take_ (i := 1) (N := some 42) (v := ?_) (a' := ?_) #[true, true, false, false, false] rfl rfl (by kernel_rfl) (fun _ _ _ h => h) (Or.inl ⟨by rfl, ?_⟩) hHeld ?_ ?_; rotate_left; exact zt10; rotate_left; exact zput
   refine one_ (i := 2) (N := some 43) #[true, true, true, false, false] rfl rfl (by kernel_rfl) (by decide) (fun K hK => ?_)
   refine goes_ Try.func17 (by kernel_rfl) rfl #[.agg #[.int .i64 a0_0, .int .i64 a0_1, .slice A0_2 l0_2.length c0_2, .int .i64 a0_3, .int .i64 a0_4]] (by rfl) rfl rfl zl ?_
   with_reducible refine (laws_toFlyPath.calls kj10 a0_0 a0_1 _ _ l0_2 a0_3 a0_4 t313 t314 t315 t318 t319 _ ?side1 ?side2 A35.out).mono ?_
   (case side1 => exact zC HR0_2 HB)
   (case side2 => exact HC0_2.out)
   rintro e w41 ⟨v316, rfl, ho0, hb⟩
   refine ⟨_, rfl, ?_⟩
   have n0_ := Aside0.mk (Kd.R_below (zr HO_4) hb)
   have n1_ := Aside0.mk (Kd.R_below (zr HO_7) hb)
   have n2_ := Aside0.mk (Kd.R_elder' (zr HO_308002) (Kd.R_base ho0) hb)
   have n3_ := Aside0.mk (Kd.R_lower (Kd.R_new' ho0 (Kd.R_lt (zr HO_308002))) (below_size (zs2 HB GE287 GE307)))
   have n4_ := zb BK287 hb
   have n5_ := zb BK307 hb
   have n6_ := Aside0.mk (below_step (zs2 HB GE287 GE307) hb)
   clear HO_4
   clear HO_7
   clear HO_308002
   clear BK287
   clear BK307
   clear HB
   have HO_4 := n0_
   have HO_7 := n1_
   have HO_308002 := n2_
   have HO317 := n3_
   have BK287 := n4_
   have BK307 := n5_
   have HB := n6_
   clear n0_ n1_ n2_ n3_ n4_ n5_ n6_
   (try clear hb)
   (try clear hb2)
   (try clear hk)
   (try clear hi)
   (try clear ho0)
   obtain ⟨Ao42, co42, eo42⟩ := Kd.R_slice HO317.out
   (first | subst eo42 | (injection eo42 with f1_ f2_ f3_; have f4_ := f1_.symm; have f5_ := f3_.symm; clear f1_ f2_ f3_; subst f4_; subst f5_))
   refine hK.out _ _ ⟨(blk_cell BK307.out 0).trans rfl, (blk_cell BK307.out 1).trans rfl, (blk_cell BK307.out 2).trans rfl, (blk_cell BK307.out 3).trans rfl, (blk_cell BK307.out 4).trans rfl, (blk_cell BK287.out 0).trans rfl, (blk_cell BK287.out 1).trans rfl, (blk_cell BK287.out 2).trans rfl, (blk_cell BK287.out 3).trans rfl, (blk_cell BK287.out 4).trans rfl⟩ (fun hHeld => ?_)
   clear hK K
   refine norm_ (a' := ?_) ?_ ?_
   rotate_left
   ·show Act.put _ (some 43) _ = _
    simp only [Act.put, List.setIfInBounds_toArray, List.set_cons_zero, List.set_cons_succ, i64_w, i32_w]
    rfl
   refine one_ (i := 3) (N := some 44) #[true, true, true, true, false] rfl rfl (by kernel_rfl) (by decide) (fun K hK => ?_)
   refine goes_ Try.func21 (by kernel_rfl) rfl #[.agg #[.int .i64 t300, .int .i64 t301, .slice Ao24 t302.length co24, .int .i64 t305, .int .i64 t306], .agg #[.int .i64 t313, .int .i64 t314, .slice Ao42 t315.length co42, .int .i64 t318, .int .i64 t319]] (by rfl) rfl rfl zl ?_
   with_reducible refine (laws_eqFlyPath.calls kj10 t300 t301 _ _ t302 t305 t306 t313 t314 _ _ t315 t318 t319 true _ ?side1 ?side2 ?side3 ?side4 A36.out).mono ?_
   (case side1 => repeat (first | exact (Kd.R_reads' HO_308002.out).2.2 | (with_reducible refine Kd.C_alloc ?_ _) | (with_reducible refine Kd.C_drewN ?_ _) | (with_reducible refine Kd.C_drew ?_)))
   (case side2 => exact (Kd.R_reads' HO_308002.out).2.1)
   (case side3 => repeat (first | exact (Kd.R_reads' HO317.out).2.2 | (with_reducible refine Kd.C_alloc ?_ _) | (with_reducible refine Kd.C_drewN ?_ _) | (with_reducible refine Kd.C_drew ?_)))
   (case side4 => exact (Kd.R_reads' HO317.out).2.1)
   rintro e w43 ⟨rfl, hb⟩
   refine ⟨_, rfl, ?_⟩
   have n0_ := Aside0.mk (Kd.R_below (zr HO_4) hb)
   have n1_ := Aside0.mk (Kd.R_below (zr HO_7) hb)
   have n2_ := Aside0.mk (Kd.R_below (zr HO_308002) hb)
   have n3_ := Aside0.mk (Kd.R_below (zr HO317) hb)
   have n4_ := zb BK287 hb
   have n5_ := zb BK307 hb
   have n6_ := Aside0.mk (below_step (zs2 HB GE287 GE307) hb)
   clear HO_4 HO_7 HO_308002 HO317 BK287 BK307 HB
   revert n0_ n1_ n2_ n3_ n4_ n5_ n6_
   intro HO_4 HO_7 HO_308002 HO317 BK287 BK307 HB
   (try clear hb)
   (try clear hb2)
   (try clear hk)
   (try clear hi)
   refine hK.out _ _ ⟨(blk_cell BK307.out 0).trans rfl, (blk_cell BK307.out 1).trans rfl, (blk_cell BK307.out 2).trans rfl, (blk_cell BK307.out 3).trans rfl, (blk_cell BK307.out 4).trans rfl, (blk_cell BK287.out 0).trans rfl, (blk_cell BK287.out 1).trans rfl, (blk_cell BK287.out 2).trans rfl, (blk_cell BK287.out 3).trans rfl, (blk_cell BK287.out 4).trans rfl⟩ (fun hHeld => ?_)
   clear hK K
   refine norm_ (a' := ?_) ?_ ?_
   rotate_left
   ·show Act.put _ (some 44) _ = _
    simp only [Act.put, List.setIfInBounds_toArray, List.set_cons_zero, List.set_cons_succ, i64_w, i32_w]
    rfl
   refine pure_ (i := 4) (N := some 45) (v := ?_) (a' := ?_) #[true, true, true, true, true] rfl rfl (by kernel_rfl) (fun _ _ _ h => h) (Or.inl ⟨by rfl, ?_⟩) ?_ ?_; rotate_left; exact zy; rotate_left; exact zput
   refine done_ (by kernel_rfl) ?_
   have hnb44 := NB307_287.out
   have hnc44 := NB287_307.out
   obtain ⟨hcz45_0, hcz45_1, hcz45_2, hcz45_3, hcz45_4⟩ := zd5 BK307
   obtain ⟨hfz45_0, hfz45_1, hfz45_2, hfz45_3, hfz45_4⟩ := zn5 BK307
   go_upto_region 14 with (first | ((with_reducible refine gate_callee (f := 22) rfl ?_); refine goesL_ (some 48) rfl rfl Try.func22 (by kernel_rfl) rfl #[.agg #[.int .i64 t300, .int .i64 t301, .slice Ao24 t302.length co24, .int .i64 t305, .int .i64 t306], .int .i64 1] rfl zl ?_; (with_reducible refine (laws_markFlyPath.calls kj10 t300 t301 (fun k_ => some k_ = (.slice Ao24 t302.length co24 : Value).ownBlock) (.slice Ao24 t302.length co24) t302 t305 t306 1 t321 t322 w _ ?side1 ?side2 A38.out).mono ?_); (case side1 => repeat (first | (with_reducible first | exact HB.out | apply below_alloc | apply pw_below_drewN | apply below_drew1 | refine below_set ?_ GE287.out | refine below_set ?_ GE307.out) | exact HB.out)); (case side2 => exact Kd.R_tight rfl HO_308002.out); rintro e w46 ⟨rfl, hy0, hb, hkp⟩; refine ⟨_, rfl, ?_⟩; have n0_ := Aside0.mk (Kd.R_mono (ok' := fun k_ => some k_ ≠ (v309 : Value).ownBlock) (Kd.R_keptB ((Kd.R_apart' HO_4.out (Kd.R_typed HO_308002.out) (by decide))) hkp (fun k_ hk_ hs_ => (hk_.2) hs_)) (fun k_ hk_ => hk_.1.1)); have n1_ := Aside0.mk (Kd.R_mono (ok' := fun k_ => some k_ ≠ (v297 : Value).ownBlock) (Kd.R_keptB ((Kd.R_apart' HO_7.out (Kd.R_typed HO_308002.out) (by decide))) hkp (fun k_ hk_ hs_ => (hk_.2) hs_)) (fun k_ hk_ => hk_.1.1)); have n2_ := Aside0.mk (Kd.R_reok rfl hy0 (fun k_ e_ => HO_308002.out.1 k_ e_)); have n3_ := Aside0.mk (blk_kept (zh BK287) hkp (fun hs_ => (fun e_ => (Kd.R_ne HO_308002.out BK287.out (by decide)) e_) hs_)); have n4_ := Aside0.mk (blk_kept (zh BK307) hkp (fun hs_ => (fun e_ => (Kd.R_ne HO_308002.out BK307.out (by decide)) e_) hs_)); have n5_ := Aside0.mk (Kd.R_mono (ok' := fun k_ => some k_ ≠ (.slice Ao24 t302.length co24 : Value).ownBlock) (Kd.R_keptB (HO317.out) hkp (fun k_ hk_ hs_ => (hk_.2) hs_)) (fun k_ hk_ => hk_.1.2)); have n6_ := Aside0.mk (hb); clear HO_4 HO_7 HO_308002 BK287 BK307 HO317 HB; revert n0_ n1_ n2_ n3_ n4_ n5_ n6_; intro HO_4 HO_7 HO_308002 BK287 BK307 HO317 HB; (try clear hb); (try clear hkp); (try clear hy0)))
   (try simp only [Act.put, List.setIfInBounds_toArray, List.set_cons_zero, List.set_cons_succ])
   go_cut [61] (fun v61 wc => ∃ (kq : Nat) (x61_38 : Bool), v61 = .bool x61_38 ∧ Aside0 (laws_FnExactFlySpans.j1 kq t296 t299 t308 x61_38 a0_0 a0_1 l0_2 a0_3 a0_4 = some r) ∧ Aside0 (kq ≤ kj10) ∧ Aside0 (Kd.R k46 46 wc w.heap.size (fun k_ => some k_ ≠ (v309 : Value).ownBlock) v297 t296) ∧ Aside0 (Kd.R k46 46 wc w.heap.size (fun k_ => some k_ ≠ (v297 : Value).ownBlock) v309 t308) ∧ Aside0 (Kd.R k88 88 wc w.heap.size (fun _ => True) (.slice Ao24 t302.length co24) t322) ∧ Aside0 (wc.heap[gb287]? = some (.cells #[.int .i64 a0_0, .int .i64 a0_1, (.slice A0_2 l0_2.length c0_2), .int .i64 a0_3, .int .i64 a0_4] 26 (0, 0))) ∧ Aside0 (wc.heap[gb307]? = some (.cells #[.int .i64 t300, .int .i64 t301, (.slice Ao24 t302.length co24), .int .i64 t305, .int .i64 t306] 34 (0, 0))) ∧ Aside0 (Below w.heap.size w wc))
   case first =>
    have H := HC39.out
    clear HC39
    by_cases c47 : t321 < 0
    ·rw [if_pos c47] at H
     have c47b0 : decide (t321 < 0) = true := decide_eq_true c47
     clear c47
     (first | rw [c47b0] | (simp only [i64_w, i32_w]; rw [c47b0]) | skip)
     have H' := Aside0.mk H
     clear H
     go_wp2
     go_meet
     case rel => exact ⟨_, (true), zi, H', ⟨by have := HJ10.out; first | omega | exact Nat.le_refl _⟩, ⟨zr HO_4⟩, ⟨zr HO_7⟩, ⟨by (with_reducible repeat (first | apply Kd.R_alloc | apply Kd.R_drewN | apply Kd.R_drew)); exact Kd.R_mono HO_308002.out (fun _ hk => trivial)⟩, ⟨zh BK287⟩, ⟨zh BK307⟩, ⟨zs2 HB GE287 GE307⟩⟩
    rw [if_neg c47] at H
    have c47b0 : decide (t321 < 0) = false := decide_eq_false c47
    clear c47
    (first | rw [c47b0] | (simp only [i64_w, i32_w]; rw [c47b0]) | skip)
    replace H := Option.bind_eq_some_iff.mp H
    obtain ⟨t323, A480, H⟩ := H
    replace H : (if t323 = true then (laws_FnExactFlySpans.j1 kj10 t296 t299 t308 (t311 != t299) a0_0 a0_1 l0_2 a0_3 a0_4) else (laws_FnExactFlySpans.j1 kj10 t296 t299 t308 true a0_0 a0_1 l0_2 a0_3 a0_4)) = some r := H
    have A48 := Aside0.mk A480
    clear A480
    by_cases c49 : t323 = true
    ·subst c49
     have H1 : (laws_FnExactFlySpans.j1 kj10 t296 t299 t308 (t311 != t299) a0_0 a0_1 l0_2 a0_3 a0_4) = some r := by rw [if_pos rfl] at H; exact H
     clear H
     have H := H1
     clear H1
     have H' := Aside0.mk H
     clear H
     obtain ⟨Ao50, co50, eo50⟩ := Kd.R_slice HO_7.out
     subst eo50
     obtain ⟨Ao51, co51, eo51⟩ := Kd.R_slice HO_4.out
     subst eo51
     go_wp2_with (first | (go_at_call 44; (with_reducible refine (laws_eqFlySpanS.calls kj10 _ _ t308 _ _ t296 true _ ?side1 ?side2 ?side3 ?side4 A48.out).mono ?_); (case side1 => repeat (first | exact (Kd.R_reads' HO_7.out).2.2 | (with_reducible refine Kd.C_alloc ?_ _) | (with_reducible refine Kd.C_drewN ?_ _) | (with_reducible refine Kd.C_drew ?_))); (case side2 => exact (Kd.R_reads' HO_7.out).2.1); (case side3 => repeat (first | exact (Kd.R_reads' HO_4.out).2.2 | (with_reducible refine Kd.C_alloc ?_ _) | (with_reducible refine Kd.C_drewN ?_ _) | (with_reducible refine Kd.C_drew ?_))); (case side4 => exact (Kd.R_reads' HO_4.out).2.1); rintro e w52 ⟨rfl, hb⟩; have n0_ := Aside0.mk (Kd.R_below (zr HO_4) hb); have n1_ := Aside0.mk (Kd.R_below (zr HO_7) hb); have n2_ := Aside0.mk (Kd.R_below (zr HO_308002) hb); have n3_ := Aside0.mk (Kd.R_below (zr HO317) hb); have n4_ := zb BK287 hb; have n5_ := zb BK307 hb; have n6_ := Aside0.mk (below_step (zs2 HB GE287 GE307) hb); clear HO_4 HO_7 HO_308002 HO317 BK287 BK307 HB; revert n0_ n1_ n2_ n3_ n4_ n5_ n6_; intro HO_4 HO_7 HO_308002 HO317 BK287 BK307 HB; (try clear hb); (try clear hb2); (try clear hk); (try clear hi)))
     go_meet
     case rel => exact ⟨_, ((t311 != t299)), zi, H', ⟨by have := HJ10.out; first | omega | exact Nat.le_refl _⟩, ⟨zr HO_4⟩, ⟨zr HO_7⟩, ⟨by (with_reducible repeat (first | apply Kd.R_alloc | apply Kd.R_drewN | apply Kd.R_drew)); exact Kd.R_mono HO_308002.out (fun _ hk => trivial)⟩, ⟨zh BK287⟩, ⟨zh BK307⟩, ⟨zs2 HB GE287 GE307⟩⟩
    replace c49 := Bool.eq_false_iff.mpr c49
    subst c49
    have H1 : (laws_FnExactFlySpans.j1 kj10 t296 t299 t308 true a0_0 a0_1 l0_2 a0_3 a0_4) = some r := by rw [if_neg (show ¬ (false = true) by decide)] at H; exact H
    clear H
    have H := H1
    clear H1
    have H' := Aside0.mk H
    clear H
    obtain ⟨Ao53, co53, eo53⟩ := Kd.R_slice HO_7.out
    subst eo53
    obtain ⟨Ao54, co54, eo54⟩ := Kd.R_slice HO_4.out
    subst eo54
    go_wp2_with (first | (go_at_call 44; (with_reducible refine (laws_eqFlySpanS.calls kj10 _ _ t308 _ _ t296 false _ ?side1 ?side2 ?side3 ?side4 A48.out).mono ?_); (case side1 => repeat (first | exact (Kd.R_reads' HO_7.out).2.2 | (with_reducible refine Kd.C_alloc ?_ _) | (with_reducible refine Kd.C_drewN ?_ _) | (with_reducible refine Kd.C_drew ?_))); (case side2 => exact (Kd.R_reads' HO_7.out).2.1); (case side3 => repeat (first | exact (Kd.R_reads' HO_4.out).2.2 | (with_reducible refine Kd.C_alloc ?_ _) | (with_reducible refine Kd.C_drewN ?_ _) | (with_reducible refine Kd.C_drew ?_))); (case side4 => exact (Kd.R_reads' HO_4.out).2.1); rintro e w55 ⟨rfl, hb⟩; have n0_ := Aside0.mk (Kd.R_below (zr HO_4) hb); have n1_ := Aside0.mk (Kd.R_below (zr HO_7) hb); have n2_ := Aside0.mk (Kd.R_below (zr HO_308002) hb); have n3_ := Aside0.mk (Kd.R_below (zr HO317) hb); have n4_ := zb BK287 hb; have n5_ := zb BK307 hb; have n6_ := Aside0.mk (below_step (zs2 HB GE287 GE307) hb); clear HO_4 HO_7 HO_308002 HO317 BK287 BK307 HB; revert n0_ n1_ n2_ n3_ n4_ n5_ n6_; intro HO_4 HO_7 HO_308002 HO317 BK287 BK307 HB; (try clear hb); (try clear hb2); (try clear hk); (try clear hi)))
    go_meet
    case rel => exact ⟨_, (true), zi, H', ⟨by have := HJ10.out; first | omega | exact Nat.le_refl _⟩, ⟨zr HO_4⟩, ⟨zr HO_7⟩, ⟨by (with_reducible repeat (first | apply Kd.R_alloc | apply Kd.R_drewN | apply Kd.R_drew)); exact Kd.R_mono HO_308002.out (fun _ hk => trivial)⟩, ⟨zh BK287⟩, ⟨zh BK307⟩, ⟨zs2 HB GE287 GE307⟩⟩
   case rest =>
    clear HC39
    try clear c1
    try clear c2
    try clear p2
    try clear c3
    try clear c3b0
    try clear c4
    try clear c11
    try clear c15
    try clear c17
    try clear c21
    try clear c22
    try clear c27
    try clear c34
    try clear c37
    try clear c42
    try clear c43
    try clear c44
    try clear c47
    try clear c47b0
    try clear c49
    try clear hcz13_0
    try clear hcz13_1
    try clear hcz13_2
    try clear hcz13_3
    try clear hcz13_4
    try clear hcz15_0
    try clear hcz15_1
    try clear hcz15_2
    try clear hcz15_3
    try clear hcz15_4
    try clear hcz19_0
    try clear hcz19_1
    try clear hcz19_2
    try clear hcz19_3
    try clear hcz19_4
    try clear hcz23_0
    try clear hcz23_1
    try clear hcz23_2
    try clear hcz23_3
    try clear hcz23_4
    try clear hcz45_0
    try clear hcz45_1
    try clear hcz45_2
    try clear hcz45_3
    try clear hcz45_4
    try clear hcz5_0
    try clear hcz5_1
    try clear hcz5_2
    try clear hcz5_3
    try clear hcz5_4
    try clear hfz13_0
    try clear hfz13_1
    try clear hfz13_2
    try clear hfz13_3
    try clear hfz13_4
    try clear hfz15_0
    try clear hfz15_1
    try clear hfz15_2
    try clear hfz15_3
    try clear hfz15_4
    try clear hfz19_0
    try clear hfz19_1
    try clear hfz19_2
    try clear hfz19_3
    try clear hfz19_4
    try clear hfz23_0
    try clear hfz23_1
    try clear hfz23_2
    try clear hfz23_3
    try clear hfz23_4
    try clear hfz45_0
    try clear hfz45_1
    try clear hfz45_2
    try clear hfz45_3
    try clear hfz45_4
    try clear hfz5_0
    try clear hfz5_1
    try clear hfz5_2
    try clear hfz5_3
    try clear hfz5_4
    try clear p2
    obtain ⟨kq, x61_38, rfl, HA, HJ38, HO_4, HO_7, HO_308002, BK287, BK307, HB⟩ := hcut
    have hl308002_38 := (Kd.R_reads' HO_308002.out).1
    rw [hl308002_38] at HO_308002
    (try simp only [hl308002_38])
    (try simp only [hl308002_38] at BK287)
    (try simp only [hl308002_38] at BK307)
    (try simp only [hl308002_38] at HO_4)
    (try simp only [hl308002_38] at HO_7)
    cases kq with
    | zero => exact absurd HA.out (by simp [laws_FnExactFlySpans.j1])
    | succ kj38 =>
     have H := HA.out
     clear HA
     simp only [laws_FnExactFlySpans.j1] at H
     by_cases c56 : x61_38 = true
     ·subst c56
      have H1 : (some false) = some r := by rw [if_pos rfl] at H; exact H
      clear H
      have H := H1
      clear H1
      obtain rfl := Option.some.inj H
      go_wp2
      go_ret
      exact ⟨ze, zs2 HB GE287 GE307⟩
     replace c56 := Bool.eq_false_iff.mpr c56
     subst c56
     have H1 : ((laws_markFlySpanS.f kj38 t308 1).bind fun bt324 => ((laws_heldFlySpanS.f kj38 bt324.2 1).bind fun t326 => (if t326 < 0 then (some false) else (if t326 = bt324.1 then ((laws_toFlyPath.f kj38 a0_0 a0_1 l0_2 a0_3 a0_4).bind fun bt327 => ((impl_FlySpans.f kj38 bt327.1 bt327.2.1 bt327.2.2.1 bt327.2.2.2.1 bt327.2.2.2.2).bind fun bt334 => ((laws_eqFlySpanS.f kj38 bt334.1 t296).bind fun t338 => (if t338 = true then (laws_FnExactFlySpans.j2 kj38 bt324.2 bt324.1 (bt334.2 != t299)) else (laws_FnExactFlySpans.j2 kj38 bt324.2 bt324.1 true))))) else (some false))))) = some r := by rw [if_neg (show ¬ (false = true) by decide)] at H; exact H
     clear H
     have H := H1
     clear H1
     replace H := Option.bind_eq_some_iff.mp H
     obtain ⟨⟨t324, t325⟩, A570, H⟩ := H
     replace H : ((laws_heldFlySpanS.f kj38 t325 1).bind fun t326 => (if t326 < 0 then (some false) else (if t326 = t324 then ((laws_toFlyPath.f kj38 a0_0 a0_1 l0_2 a0_3 a0_4).bind fun bt327 => ((impl_FlySpans.f kj38 bt327.1 bt327.2.1 bt327.2.2.1 bt327.2.2.2.1 bt327.2.2.2.2).bind fun bt334 => ((laws_eqFlySpanS.f kj38 bt334.1 t296).bind fun t338 => (if t338 = true then (laws_FnExactFlySpans.j2 kj38 t325 t324 (bt334.2 != t299)) else (laws_FnExactFlySpans.j2 kj38 t325 t324 true))))) else (some false)))) = some r := H
     have A57 := Aside0.mk A570
     clear A570
     replace H := Option.bind_eq_some_iff.mp H
     obtain ⟨t326, A580, H⟩ := H
     replace H : (if t326 < 0 then (some false) else (if t326 = t324 then ((laws_toFlyPath.f kj38 a0_0 a0_1 l0_2 a0_3 a0_4).bind fun bt327 => ((impl_FlySpans.f kj38 bt327.1 bt327.2.1 bt327.2.2.1 bt327.2.2.2.1 bt327.2.2.2.2).bind fun bt334 => ((laws_eqFlySpanS.f kj38 bt334.1 t296).bind fun t338 => (if t338 = true then (laws_FnExactFlySpans.j2 kj38 t325 t324 (bt334.2 != t299)) else (laws_FnExactFlySpans.j2 kj38 t325 t324 true))))) else (some false))) = some r := H
     have A58 := Aside0.mk A580
     clear A580
     by_cases c59 : t326 < 0
     ·rw [if_pos c59] at H
      have c59b0 : decide (t326 < 0) = true := decide_eq_true c59
      clear c59
      obtain rfl := Option.some.inj H
      obtain ⟨Ao60, co60, eo60⟩ := Kd.R_slice HO_7.out
      subst eo60
      go_wp2_with (first | ((with_reducible refine gate_callee (f := 45) rfl ?_); refine goesL_ (some 64) rfl rfl Try.func45 (by kernel_rfl) rfl #[.slice Ao60 t308.length co60, .int .i64 1] rfl zl ?_; (with_reducible refine (laws_markFlySpanS.calls kj38 (fun k_ => some k_ = (.slice Ao60 t308.length co60 : Value).ownBlock) (.slice Ao60 t308.length co60) t308 1 t324 t325 w _ ?side1 ?side2 A57.out).mono ?_); (case side1 => repeat (first | (with_reducible first | exact HB.out | apply below_alloc | apply pw_below_drewN | apply below_drew1 | refine below_set ?_ GE287.out | refine below_set ?_ GE307.out) | exact HB.out)); (case side2 => exact Kd.R_tight rfl HO_7.out); rintro e w61 ⟨rfl, hy0, hb, hkp⟩; refine ⟨_, rfl, ?_⟩; have n0_ := Aside0.mk (Kd.R_mono (ok' := fun k_ => some k_ ≠ (.slice Ao60 t308.length co60 : Value).ownBlock) (Kd.R_keptB (HO_4.out) hkp (fun k_ hk_ hs_ => (hk_) hs_)) (fun k_ hk_ => hk_.1)); have n1_ := Aside0.mk (Kd.R_reok rfl hy0 (fun k_ e_ => HO_7.out.1 k_ e_)); have n2_ := Aside0.mk (Kd.R_mono (ok' := fun k_ => True) (Kd.R_keptB ((Kd.R_apart' HO_308002.out (Kd.R_typed HO_7.out) (by decide))) hkp (fun k_ hk_ hs_ => (hk_.2) hs_)) (fun k_ hk_ => trivial)); have n3_ := Aside0.mk (blk_kept (zh BK287) hkp (fun hs_ => (fun e_ => (Kd.R_ne HO_7.out BK287.out (by decide)) e_) hs_)); have n4_ := Aside0.mk (blk_kept (zh BK307) hkp (fun hs_ => (fun e_ => (Kd.R_ne HO_7.out BK307.out (by decide)) e_) hs_)); have n5_ := Aside0.mk (hb); clear HO_4 HO_7 HO_308002 BK287 BK307 HB; revert n0_ n1_ n2_ n3_ n4_ n5_; intro HO_4 HO_7 HO_308002 BK287 BK307 HB; (try clear hb); (try clear hkp); (try clear hy0)) | ((with_reducible refine gate_callee (f := 46) rfl ?_); refine goesL_ (some 67) rfl rfl Try.func46 (by kernel_rfl) rfl #[.slice Ao60 t325.length co60, .int .i64 1] rfl (by (try simp only [List.map_toArray, List.map_cons, List.map_nil]); first | done | (rw [show t325.length = t308.length from (Kd.R_reads' HO_7.out).1.symm] <;> rfl) | rfl | (simp only [List.length_drop, List.length_take]; rfl)) ?_; (with_reducible refine (laws_heldFlySpanS.calls kj38 _ _ t325 1 t326 _ ?side1 ?side2 A58.out).mono ?_); (case side1 => repeat (first | exact (Kd.R_reads' HO_7.out).2.2 | (with_reducible refine Kd.C_alloc ?_ _) | (with_reducible refine Kd.C_drewN ?_ _) | (with_reducible refine Kd.C_drew ?_))); (case side2 => rw [show t325.length = t308.length from (Kd.R_reads' HO_7.out).1.symm]; exact (Kd.R_reads' HO_7.out).2.1); rintro e w' ⟨rfl, ⟨nd, rfl⟩⟩; refine ⟨_, rfl, ?_⟩))
      go_ret
      exact ⟨ze, zs2 HB GE287 GE307⟩
     rw [if_neg c59] at H
     have c59b0 : decide (t326 < 0) = false := decide_eq_false c59
     clear c59
     by_cases c62 : t326 = t324
     rotate_left
     ·rw [if_neg c62] at H
      have c62b0 : (t326 == t324) = false := beq_eq_false_iff_ne.mpr c62
      have c62b1 : (t326 != t324) = true := bne_iff_ne.mpr c62
      obtain rfl := Option.some.inj H
      obtain ⟨Ao85, co85, eo85⟩ := Kd.R_slice HO_7.out
      subst eo85
      go_wp2_with (first | ((with_reducible refine gate_callee (f := 45) rfl ?_); refine goesL_ (some 64) rfl rfl Try.func45 (by kernel_rfl) rfl #[.slice Ao85 t308.length co85, .int .i64 1] rfl zl ?_; (with_reducible refine (laws_markFlySpanS.calls kj38 (fun k_ => some k_ = (.slice Ao85 t308.length co85 : Value).ownBlock) (.slice Ao85 t308.length co85) t308 1 t324 t325 w _ ?side1 ?side2 A57.out).mono ?_); (case side1 => repeat (first | (with_reducible first | exact HB.out | apply below_alloc | apply pw_below_drewN | apply below_drew1 | refine below_set ?_ GE287.out | refine below_set ?_ GE307.out) | exact HB.out)); (case side2 => exact Kd.R_tight rfl HO_7.out); rintro e w86 ⟨rfl, hy0, hb, hkp⟩; refine ⟨_, rfl, ?_⟩; have n0_ := Aside0.mk (Kd.R_mono (ok' := fun k_ => some k_ ≠ (.slice Ao85 t308.length co85 : Value).ownBlock) (Kd.R_keptB (HO_4.out) hkp (fun k_ hk_ hs_ => (hk_) hs_)) (fun k_ hk_ => hk_.1)); have n1_ := Aside0.mk (Kd.R_reok rfl hy0 (fun k_ e_ => HO_7.out.1 k_ e_)); have n2_ := Aside0.mk (Kd.R_mono (ok' := fun k_ => True) (Kd.R_keptB ((Kd.R_apart' HO_308002.out (Kd.R_typed HO_7.out) (by decide))) hkp (fun k_ hk_ hs_ => (hk_.2) hs_)) (fun k_ hk_ => trivial)); have n3_ := Aside0.mk (blk_kept (zh BK287) hkp (fun hs_ => (fun e_ => (Kd.R_ne HO_7.out BK287.out (by decide)) e_) hs_)); have n4_ := Aside0.mk (blk_kept (zh BK307) hkp (fun hs_ => (fun e_ => (Kd.R_ne HO_7.out BK307.out (by decide)) e_) hs_)); have n5_ := Aside0.mk (hb); clear HO_4 HO_7 HO_308002 BK287 BK307 HB; revert n0_ n1_ n2_ n3_ n4_ n5_; intro HO_4 HO_7 HO_308002 BK287 BK307 HB; (try clear hb); (try clear hkp); (try clear hy0)) | ((with_reducible refine gate_callee (f := 46) rfl ?_); refine goesL_ (some 67) rfl rfl Try.func46 (by kernel_rfl) rfl #[.slice Ao85 t325.length co85, .int .i64 1] rfl (by (try simp only [List.map_toArray, List.map_cons, List.map_nil]); first | done | (rw [show t325.length = t308.length from (Kd.R_reads' HO_7.out).1.symm] <;> rfl) | rfl | (simp only [List.length_drop, List.length_take]; rfl)) ?_; (with_reducible refine (laws_heldFlySpanS.calls kj38 _ _ t325 1 t326 _ ?side1 ?side2 A58.out).mono ?_); (case side1 => repeat (first | exact (Kd.R_reads' HO_7.out).2.2 | (with_reducible refine Kd.C_alloc ?_ _) | (with_reducible refine Kd.C_drewN ?_ _) | (with_reducible refine Kd.C_drew ?_))); (case side2 => rw [show t325.length = t308.length from (Kd.R_reads' HO_7.out).1.symm]; exact (Kd.R_reads' HO_7.out).2.1); rintro e w' ⟨rfl, ⟨nd, rfl⟩⟩; refine ⟨_, rfl, ?_⟩))
      go_ret
      exact ⟨ze, zs2 HB GE287 GE307⟩
     rw [if_pos c62] at H
     have c62b0 : (t326 == t324) = true := beq_iff_eq.mpr c62
     have c62b1 : (t326 != t324) = false := bne_eq_false_iff_eq.mpr c62
     clear c62
     replace H := Option.bind_eq_some_iff.mp H
     obtain ⟨⟨t327, t328, t329, t332, t333⟩, A630, H⟩ := H
     replace H : ((impl_FlySpans.f kj38 t327 t328 t329 t332 t333).bind fun bt334 => ((laws_eqFlySpanS.f kj38 bt334.1 t296).bind fun t338 => (if t338 = true then (laws_FnExactFlySpans.j2 kj38 t325 t324 (bt334.2 != t299)) else (laws_FnExactFlySpans.j2 kj38 t325 t324 true)))) = some r := H
     have A63 := Aside0.mk A630
     clear A630
     replace H := Option.bind_eq_some_iff.mp H
     obtain ⟨⟨t334, t337⟩, A640, H⟩ := H
     replace H : ((laws_eqFlySpanS.f kj38 t334 t296).bind fun t338 => (if t338 = true then (laws_FnExactFlySpans.j2 kj38 t325 t324 (t337 != t299)) else (laws_FnExactFlySpans.j2 kj38 t325 t324 true))) = some r := H
     have A64 := Aside0.mk A640
     clear A640
     have HC65 := Aside0.mk H
     clear H
     obtain ⟨Ao66, co66, eo66⟩ := Kd.R_slice HO_7.out
     subst eo66
     go_upto_region 25 with (first | ((with_reducible refine gate_callee (f := 45) rfl ?_); refine goesL_ (some 64) rfl rfl Try.func45 (by kernel_rfl) rfl #[.slice Ao66 t308.length co66, .int .i64 1] rfl zl ?_; (with_reducible refine (laws_markFlySpanS.calls kj38 (fun k_ => some k_ = (.slice Ao66 t308.length co66 : Value).ownBlock) (.slice Ao66 t308.length co66) t308 1 t324 t325 w _ ?side1 ?side2 A57.out).mono ?_); (case side1 => repeat (first | (with_reducible first | exact HB.out | apply below_alloc | apply pw_below_drewN | apply below_drew1 | refine below_set ?_ GE287.out | refine below_set ?_ GE307.out) | exact HB.out)); (case side2 => exact Kd.R_tight rfl HO_7.out); rintro e w67 ⟨rfl, hy0, hb, hkp⟩; refine ⟨_, rfl, ?_⟩; have n0_ := Aside0.mk (Kd.R_mono (ok' := fun k_ => some k_ ≠ (.slice Ao66 t308.length co66 : Value).ownBlock) (Kd.R_keptB (HO_4.out) hkp (fun k_ hk_ hs_ => (hk_) hs_)) (fun k_ hk_ => hk_.1)); have n1_ := Aside0.mk (Kd.R_reok rfl hy0 (fun k_ e_ => HO_7.out.1 k_ e_)); have n2_ := Aside0.mk (Kd.R_mono (ok' := fun k_ => True) (Kd.R_keptB ((Kd.R_apart' HO_308002.out (Kd.R_typed HO_7.out) (by decide))) hkp (fun k_ hk_ hs_ => (hk_.2) hs_)) (fun k_ hk_ => trivial)); have n3_ := Aside0.mk (blk_kept (zh BK287) hkp (fun hs_ => (fun e_ => (Kd.R_ne HO_7.out BK287.out (by decide)) e_) hs_)); have n4_ := Aside0.mk (blk_kept (zh BK307) hkp (fun hs_ => (fun e_ => (Kd.R_ne HO_7.out BK307.out (by decide)) e_) hs_)); have n5_ := Aside0.mk (hb); clear HO_4 HO_7 HO_308002 BK287 BK307 HB; revert n0_ n1_ n2_ n3_ n4_ n5_; intro HO_4 HO_7 HO_308002 BK287 BK307 HB; (try clear hb); (try clear hkp); (try clear hy0)) | ((with_reducible refine gate_callee (f := 46) rfl ?_); refine goesL_ (some 67) rfl rfl Try.func46 (by kernel_rfl) rfl #[.slice Ao66 t325.length co66, .int .i64 1] rfl (by (try simp only [List.map_toArray, List.map_cons, List.map_nil]); first | done | (rw [show t325.length = t308.length from (Kd.R_reads' HO_7.out).1.symm] <;> rfl) | rfl | (simp only [List.length_drop, List.length_take]; rfl)) ?_; (with_reducible refine (laws_heldFlySpanS.calls kj38 _ _ t325 1 t326 _ ?side1 ?side2 A58.out).mono ?_); (case side1 => repeat (first | exact (Kd.R_reads' HO_7.out).2.2 | (with_reducible refine Kd.C_alloc ?_ _) | (with_reducible refine Kd.C_drewN ?_ _) | (with_reducible refine Kd.C_drew ?_))); (case side2 => rw [show t325.length = t308.length from (Kd.R_reads' HO_7.out).1.symm]; exact (Kd.R_reads' HO_7.out).2.1); rintro e w' ⟨rfl, ⟨nd, rfl⟩⟩; refine ⟨_, rfl, ?_⟩; have hnb68 := NB287_307.out; have hnc68 := NB307_287.out; obtain ⟨hcz69_0, hcz69_1, hcz69_2, hcz69_3, hcz69_4⟩ := zd5 BK287; obtain ⟨hfz69_0, hfz69_1, hfz69_2, hfz69_3, hfz69_4⟩ := zn5 BK287) | ((with_reducible refine gate_callee (f := 17) rfl ?_); refine goesL_ (some 75) rfl rfl Try.func17 (by kernel_rfl) rfl #[.agg #[.int .i64 a0_0, .int .i64 a0_1, .slice A0_2 l0_2.length c0_2, .int .i64 a0_3, .int .i64 a0_4]] rfl zl ?_; (with_reducible refine (laws_toFlyPath.calls kj38 a0_0 a0_1 _ _ l0_2 a0_3 a0_4 t327 t328 t329 t332 t333 _ ?side1 ?side2 A63.out).mono ?_); (case side1 => repeat (first | exact (Kd.C_below HR0_2.out (zs2 HB GE287 GE307)) | (with_reducible refine Kd.C_alloc ?_ _) | (with_reducible refine Kd.C_drewN ?_ _) | (with_reducible refine Kd.C_drew ?_))); (case side2 => exact HC0_2.out); rintro e w70 ⟨v330, rfl, ho0, hb⟩; refine ⟨_, rfl, ?_⟩; have n0_ := Aside0.mk (Kd.R_below (zr HO_4) hb); have n1_ := Aside0.mk (Kd.R_below (zr HO_7) hb); have n2_ := Aside0.mk (Kd.R_elder' (zr HO_308002) (Kd.R_base ho0) hb); have n3_ := Aside0.mk (Kd.R_lower (Kd.R_new' ho0 (Kd.R_lt (zr HO_308002))) (below_size (zs2 HB GE287 GE307))); have n4_ := zb BK287 hb; have n5_ := zb BK307 hb; have n6_ := Aside0.mk (below_step (zs2 HB GE287 GE307) hb); clear HO_4; clear HO_7; clear HO_308002; clear BK287; clear BK307; clear HB; have HO_4 := n0_; have HO_7 := n1_; have HO_308002 := n2_; have HO331 := n3_; have BK287 := n4_; have BK307 := n5_; have HB := n6_; clear n0_ n1_ n2_ n3_ n4_ n5_ n6_; (try clear hb); (try clear hb2); (try clear hk); (try clear hi); (try clear ho0); obtain ⟨Ao71, co71, eo71⟩ := Kd.R_slice HO331.out; subst eo71) | ((with_reducible refine gate_callee (f := 43) rfl ?_); refine goesL_ (some 76) rfl rfl Try.func43 (by kernel_rfl) rfl #[.agg #[.int .i64 t327, .int .i64 t328, .slice Ao71 t329.length co71, .int .i64 t332, .int .i64 t333]] rfl zl ?_; (with_reducible refine (impl_FlySpans.calls kj38 t327 t328 _ _ t329 t332 t333 t334 t337 _ ?side1 ?side2 A64.out).mono ?_); (case side1 => repeat (first | exact (Kd.R_reads' HO331.out).2.2 | (with_reducible refine Kd.C_alloc ?_ _) | (with_reducible refine Kd.C_drewN ?_ _) | (with_reducible refine Kd.C_drew ?_))); (case side2 => exact (Kd.R_reads' HO331.out).2.1); rintro e w72 ⟨v335, rfl, ho0, hb⟩; refine ⟨_, rfl, ?_⟩; have n0_ := Aside0.mk (Kd.R_elder' (zr HO_4) (Kd.R_base ho0) hb); have n1_ := Aside0.mk (Kd.R_elder' (zr HO_7) (Kd.R_base ho0) hb); have n2_ := Aside0.mk (Kd.R_below (zr HO_308002) hb); have n3_ := Aside0.mk (Kd.R_below (zr HO331) hb); have n4_ := Aside0.mk (Kd.R_lower (Kd.R_new' (Kd.R_new' ho0 (Kd.R_lt (zr HO_4))) (Kd.R_lt (zr HO_7))) (below_size (zs2 HB GE287 GE307))); have n5_ := zb BK287 hb; have n6_ := zb BK307 hb; have n7_ := Aside0.mk (below_step (zs2 HB GE287 GE307) hb); clear HO_4; clear HO_7; clear HO_308002; clear HO331; clear BK287; clear BK307; clear HB; have HO_4 := n0_; have HO_7 := n1_; have HO_308002 := n2_; have HO331 := n3_; have HO336 := n4_; have BK287 := n5_; have BK307 := n6_; have HB := n7_; clear n0_ n1_ n2_ n3_ n4_ n5_ n6_ n7_; (try clear hb); (try clear hb2); (try clear hk); (try clear hi); (try clear ho0)))
     (try simp only [Act.put, List.setIfInBounds_toArray, List.set_cons_zero, List.set_cons_succ])
     go_cut [87] (fun v87 wc => ∃ (kq : Nat) (x87_64 : Bool), v87 = .bool x87_64 ∧ Aside0 (laws_FnExactFlySpans.j2 kq t325 t324 x87_64 = some r) ∧ Aside0 (kq ≤ kj38) ∧ Aside0 (Kd.R k46 46 wc w.heap.size (fun _ => True) (.slice Ao66 t308.length co66) t325) ∧ Aside0 (Kd.R k88 88 wc w.heap.size (fun _ => True) (.slice Ao24 t322.length co24) t322) ∧ Aside0 (wc.heap[gb287]? = some (.cells #[.int .i64 a0_0, .int .i64 a0_1, (.slice A0_2 l0_2.length c0_2), .int .i64 a0_3, .int .i64 a0_4] 26 (0, 0))) ∧ Aside0 (wc.heap[gb307]? = some (.cells #[.int .i64 t300, .int .i64 t301, (.slice Ao24 t322.length co24), .int .i64 t305, .int .i64 t306] 34 (0, 0))) ∧ Aside0 (Below w.heap.size w wc))
     case first =>
      have H := HC65.out
      clear HC65
      replace H := Option.bind_eq_some_iff.mp H
      obtain ⟨t338, A730, H⟩ := H
      replace H : (if t338 = true then (laws_FnExactFlySpans.j2 kj38 t325 t324 (t337 != t299)) else (laws_FnExactFlySpans.j2 kj38 t325 t324 true)) = some r := H
      have A73 := Aside0.mk A730
      clear A730
      by_cases c74 : t338 = true
      ·subst c74
       have H1 : (laws_FnExactFlySpans.j2 kj38 t325 t324 (t337 != t299)) = some r := by rw [if_pos rfl] at H; exact H
       clear H
       have H := H1
       clear H1
       have H' := Aside0.mk H
       clear H
       obtain ⟨Ao75, co75, eo75⟩ := Kd.R_slice HO336.out
       subst eo75
       obtain ⟨Ao76, co76, eo76⟩ := Kd.R_slice HO_4.out
       subst eo76
       go_wp2_with (first | ((with_reducible refine gate_callee (f := 44) rfl ?_); refine goesL_ (some 81) rfl rfl Try.func44 (by kernel_rfl) rfl #[.slice Ao75 t334.length co75, .slice Ao76 t296.length co76] rfl zl ?_; (with_reducible refine (laws_eqFlySpanS.calls kj38 _ _ t334 _ _ t296 true _ ?side1 ?side2 ?side3 ?side4 A73.out).mono ?_); (case side1 => repeat (first | exact (Kd.R_reads' HO336.out).2.2 | (with_reducible refine Kd.C_alloc ?_ _) | (with_reducible refine Kd.C_drewN ?_ _) | (with_reducible refine Kd.C_drew ?_))); (case side2 => exact (Kd.R_reads' HO336.out).2.1); (case side3 => repeat (first | exact (Kd.R_reads' HO_4.out).2.2 | (with_reducible refine Kd.C_alloc ?_ _) | (with_reducible refine Kd.C_drewN ?_ _) | (with_reducible refine Kd.C_drew ?_))); (case side4 => exact (Kd.R_reads' HO_4.out).2.1); rintro e w77 ⟨rfl, hb⟩; refine ⟨_, rfl, ?_⟩; have n0_ := Aside0.mk (Kd.R_below (zr HO_4) hb); have n1_ := Aside0.mk (Kd.R_below (zr HO_7) hb); have n2_ := Aside0.mk (Kd.R_below (zr HO_308002) hb); have n3_ := Aside0.mk (Kd.R_below (zr HO331) hb); have n4_ := Aside0.mk (Kd.R_below (zr HO336) hb); have n5_ := zb BK287 hb; have n6_ := zb BK307 hb; have n7_ := Aside0.mk (below_step (zs2 HB GE287 GE307) hb); clear HO_4 HO_7 HO_308002 HO331 HO336 BK287 BK307 HB; revert n0_ n1_ n2_ n3_ n4_ n5_ n6_ n7_; intro HO_4 HO_7 HO_308002 HO331 HO336 BK287 BK307 HB; (try clear hb); (try clear hb2); (try clear hk); (try clear hi)))
       go_meet
       case rel => exact ⟨_, ((t337 != t299)), zi, H', ⟨by have := HJ10.out; have := HJ38.out; first | omega | exact Nat.le_refl _⟩, ⟨by (try simp only [hl308002_38]); (with_reducible repeat (first | apply Kd.R_alloc | apply Kd.R_drewN | apply Kd.R_drew)); exact Kd.R_mono HO_7.out (fun _ hk => trivial)⟩, ⟨by (try simp only [hl308002_38]); (with_reducible repeat (first | apply Kd.R_alloc | apply Kd.R_drewN | apply Kd.R_drew)); exact Kd.R_mono HO_308002.out (fun _ hk => trivial)⟩, ⟨by (try simp only [hl308002_38]); (with_reducible repeat (first | refine blk_drewN ?_ _ | refine blk_drew ?_ | refine blk_alloc ?_ _)); exact BK287.out⟩, ⟨by (try simp only [hl308002_38]); (with_reducible repeat (first | refine blk_drewN ?_ _ | refine blk_drew ?_ | refine blk_alloc ?_ _)); exact BK307.out⟩, ⟨zs2 HB GE287 GE307⟩⟩
      replace c74 := Bool.eq_false_iff.mpr c74
      subst c74
      have H1 : (laws_FnExactFlySpans.j2 kj38 t325 t324 true) = some r := by rw [if_neg (show ¬ (false = true) by decide)] at H; exact H
      clear H
      have H := H1
      clear H1
      have H' := Aside0.mk H
      clear H
      obtain ⟨Ao78, co78, eo78⟩ := Kd.R_slice HO336.out
      subst eo78
      obtain ⟨Ao79, co79, eo79⟩ := Kd.R_slice HO_4.out
      subst eo79
      go_wp2_with (first | ((with_reducible refine gate_callee (f := 44) rfl ?_); refine goesL_ (some 81) rfl rfl Try.func44 (by kernel_rfl) rfl #[.slice Ao78 t334.length co78, .slice Ao79 t296.length co79] rfl zl ?_; (with_reducible refine (laws_eqFlySpanS.calls kj38 _ _ t334 _ _ t296 false _ ?side1 ?side2 ?side3 ?side4 A73.out).mono ?_); (case side1 => repeat (first | exact (Kd.R_reads' HO336.out).2.2 | (with_reducible refine Kd.C_alloc ?_ _) | (with_reducible refine Kd.C_drewN ?_ _) | (with_reducible refine Kd.C_drew ?_))); (case side2 => exact (Kd.R_reads' HO336.out).2.1); (case side3 => repeat (first | exact (Kd.R_reads' HO_4.out).2.2 | (with_reducible refine Kd.C_alloc ?_ _) | (with_reducible refine Kd.C_drewN ?_ _) | (with_reducible refine Kd.C_drew ?_))); (case side4 => exact (Kd.R_reads' HO_4.out).2.1); rintro e w80 ⟨rfl, hb⟩; refine ⟨_, rfl, ?_⟩; have n0_ := Aside0.mk (Kd.R_below (zr HO_4) hb); have n1_ := Aside0.mk (Kd.R_below (zr HO_7) hb); have n2_ := Aside0.mk (Kd.R_below (zr HO_308002) hb); have n3_ := Aside0.mk (Kd.R_below (zr HO331) hb); have n4_ := Aside0.mk (Kd.R_below (zr HO336) hb); have n5_ := zb BK287 hb; have n6_ := zb BK307 hb; have n7_ := Aside0.mk (below_step (zs2 HB GE287 GE307) hb); clear HO_4 HO_7 HO_308002 HO331 HO336 BK287 BK307 HB; revert n0_ n1_ n2_ n3_ n4_ n5_ n6_ n7_; intro HO_4 HO_7 HO_308002 HO331 HO336 BK287 BK307 HB; (try clear hb); (try clear hb2); (try clear hk); (try clear hi)))
      go_meet
      case rel => exact ⟨_, (true), zi, H', ⟨by have := HJ10.out; have := HJ38.out; first | omega | exact Nat.le_refl _⟩, ⟨by (try simp only [hl308002_38]); (with_reducible repeat (first | apply Kd.R_alloc | apply Kd.R_drewN | apply Kd.R_drew)); exact Kd.R_mono HO_7.out (fun _ hk => trivial)⟩, ⟨by (try simp only [hl308002_38]); (with_reducible repeat (first | apply Kd.R_alloc | apply Kd.R_drewN | apply Kd.R_drew)); exact Kd.R_mono HO_308002.out (fun _ hk => trivial)⟩, ⟨by (try simp only [hl308002_38]); (with_reducible repeat (first | refine blk_drewN ?_ _ | refine blk_drew ?_ | refine blk_alloc ?_ _)); exact BK287.out⟩, ⟨by (try simp only [hl308002_38]); (with_reducible repeat (first | refine blk_drewN ?_ _ | refine blk_drew ?_ | refine blk_alloc ?_ _)); exact BK307.out⟩, ⟨zs2 HB GE287 GE307⟩⟩
     case rest =>
      clear HC65
      try clear c1
      try clear c2
      try clear p2
      try clear c3
      try clear c3b0
      try clear c4
      try clear c5
      try clear c6
      try clear c7
      try clear c11
      try clear c15
      try clear c17
      try clear c21
      try clear c22
      try clear c27
      try clear c34
      try clear c37
      try clear c42
      try clear c43
      try clear c44
      try clear c45
      try clear c46
      try clear c47
      try clear c47b0
      try clear c49
      try clear c56
      try clear c59
      try clear c59b0
      try clear c62
      try clear c62b0
      try clear c62b1
      try clear c68
      try clear c74
      try clear hcz13_0
      try clear hcz13_1
      try clear hcz13_2
      try clear hcz13_3
      try clear hcz13_4
      try clear hcz15_0
      try clear hcz15_1
      try clear hcz15_2
      try clear hcz15_3
      try clear hcz15_4
      try clear hcz19_0
      try clear hcz19_1
      try clear hcz19_2
      try clear hcz19_3
      try clear hcz19_4
      try clear hcz23_0
      try clear hcz23_1
      try clear hcz23_2
      try clear hcz23_3
      try clear hcz23_4
      try clear hcz45_0
      try clear hcz45_1
      try clear hcz45_2
      try clear hcz45_3
      try clear hcz45_4
      try clear hcz5_0
      try clear hcz5_1
      try clear hcz5_2
      try clear hcz5_3
      try clear hcz5_4
      try clear hcz69_0
      try clear hcz69_1
      try clear hcz69_2
      try clear hcz69_3
      try clear hcz69_4
      try clear hfz13_0
      try clear hfz13_1
      try clear hfz13_2
      try clear hfz13_3
      try clear hfz13_4
      try clear hfz15_0
      try clear hfz15_1
      try clear hfz15_2
      try clear hfz15_3
      try clear hfz15_4
      try clear hfz19_0
      try clear hfz19_1
      try clear hfz19_2
      try clear hfz19_3
      try clear hfz19_4
      try clear hfz23_0
      try clear hfz23_1
      try clear hfz23_2
      try clear hfz23_3
      try clear hfz23_4
      try clear hfz45_0
      try clear hfz45_1
      try clear hfz45_2
      try clear hfz45_3
      try clear hfz45_4
      try clear hfz5_0
      try clear hfz5_1
      try clear hfz5_2
      try clear hfz5_3
      try clear hfz5_4
      try clear hfz69_0
      try clear hfz69_1
      try clear hfz69_2
      try clear hfz69_3
      try clear hfz69_4
      try clear p2
      obtain ⟨kq, x87_64, rfl, HA, HJ64, HO_7, HO_308002, BK287, BK307, HB⟩ := hcut
      have hl7_64 := (Kd.R_reads' HO_7.out).1
      rw [hl7_64] at HO_7
      (try simp only [hl7_64])
      (try simp only [hl7_64] at BK287)
      (try simp only [hl7_64] at BK307)
      (try simp only [hl7_64] at HO_308002)
      cases kq with
      | zero => exact absurd HA.out (by simp [laws_FnExactFlySpans.j2])
      | succ kj64 =>
       have H := HA.out
       clear HA
       simp only [laws_FnExactFlySpans.j2] at H
       by_cases c81 : x87_64 = true
       ·subst c81
        have H1 : (some false) = some r := by rw [if_pos rfl] at H; exact H
        clear H
        have H := H1
        clear H1
        obtain rfl := Option.some.inj H
        go_wp2
        go_ret
        exact ⟨ze, zs2 HB GE287 GE307⟩
       replace c81 := Bool.eq_false_iff.mpr c81
       subst c81
       have H1 : ((laws_heldFlySpanS.f kj64 t325 1).bind fun t339 => (if t339 < 0 then (some false) else (if t339 = t324 then (some true) else (some false)))) = some r := by rw [if_neg (show ¬ (false = true) by decide)] at H; exact H
       clear H
       have H := H1
       clear H1
       replace H := Option.bind_eq_some_iff.mp H
       obtain ⟨t339, A820, H⟩ := H
       replace H : (if t339 < 0 then (some false) else (if t339 = t324 then (some true) else (some false))) = some r := H
       have A82 := Aside0.mk A820
       clear A820
       by_cases c83 : t339 < 0
       ·rw [if_pos c83] at H
        have c83b0 : decide (t339 < 0) = true := decide_eq_true c83
        clear c83
        obtain rfl := Option.some.inj H
        go_wp2_with (first | ((with_reducible refine gate_callee (f := 46) rfl ?_); refine goesL_ (some 90) rfl rfl Try.func46 (by kernel_rfl) rfl #[.slice Ao66 t325.length co66, .int .i64 1] rfl zl ?_; (with_reducible refine (laws_heldFlySpanS.calls kj64 _ _ t325 1 t339 _ ?side1 ?side2 A82.out).mono ?_); (case side1 => repeat (first | exact (Kd.R_reads' HO_7.out).2.2 | (with_reducible refine Kd.C_alloc ?_ _) | (with_reducible refine Kd.C_drewN ?_ _) | (with_reducible refine Kd.C_drew ?_))); (case side2 => exact (Kd.R_reads' HO_7.out).2.1); rintro e w' ⟨rfl, ⟨nd, rfl⟩⟩; refine ⟨_, rfl, ?_⟩))
        go_ret
        exact ⟨ze, zs2 HB GE287 GE307⟩
       rw [if_neg c83] at H
       have c83b0 : decide (t339 < 0) = false := decide_eq_false c83
       clear c83
       by_cases c84 : t339 = t324
       rotate_left
       ·rw [if_neg c84] at H
        have c84b0 : (t339 == t324) = false := beq_eq_false_iff_ne.mpr c84
        have c84b1 : (t339 != t324) = true := bne_iff_ne.mpr c84
        obtain rfl := Option.some.inj H
        go_wp2_with (first | ((with_reducible refine gate_callee (f := 46) rfl ?_); refine goesL_ (some 90) rfl rfl Try.func46 (by kernel_rfl) rfl #[.slice Ao66 t325.length co66, .int .i64 1] rfl zl ?_; (with_reducible refine (laws_heldFlySpanS.calls kj64 _ _ t325 1 t339 _ ?side1 ?side2 A82.out).mono ?_); (case side1 => repeat (first | exact (Kd.R_reads' HO_7.out).2.2 | (with_reducible refine Kd.C_alloc ?_ _) | (with_reducible refine Kd.C_drewN ?_ _) | (with_reducible refine Kd.C_drew ?_))); (case side2 => exact (Kd.R_reads' HO_7.out).2.1); rintro e w' ⟨rfl, ⟨nd, rfl⟩⟩; refine ⟨_, rfl, ?_⟩))
        go_ret
        exact ⟨ze, zs2 HB GE287 GE307⟩
       rw [if_pos c84] at H
       have c84b0 : (t339 == t324) = true := beq_iff_eq.mpr c84
       have c84b1 : (t339 != t324) = false := bne_eq_false_iff_eq.mpr c84
       clear c84
       obtain rfl := Option.some.inj H
       go_wp2_with (first | ((with_reducible refine gate_callee (f := 46) rfl ?_); refine goesL_ (some 90) rfl rfl Try.func46 (by kernel_rfl) rfl #[.slice Ao66 t325.length co66, .int .i64 1] rfl zl ?_; (with_reducible refine (laws_heldFlySpanS.calls kj64 _ _ t325 1 t339 _ ?side1 ?side2 A82.out).mono ?_); (case side1 => repeat (first | exact (Kd.R_reads' HO_7.out).2.2 | (with_reducible refine Kd.C_alloc ?_ _) | (with_reducible refine Kd.C_drewN ?_ _) | (with_reducible refine Kd.C_drew ?_))); (case side2 => exact (Kd.R_reads' HO_7.out).2.1); rintro e w' ⟨rfl, ⟨nd, rfl⟩⟩; refine ⟨_, rfl, ?_⟩))
       go_ret
       exact ⟨ze, zs2 HB GE287 GE307⟩
end Go.Proofs.Ytidenmcoilmbcaa.QFnExactFlySpans
