/- The walk of what the law FnExactFlyTube reaches: laid by a program of this session (ownprint.py). -/
import Derived.Test.YtbmplfpnhjhoiaaQFnExactFlyTubex0
import Derived.Test.YtbmplfpnhjhoiaaQFnExactFlyTubex8
import Derived.Test.YtbmplfpnhjhoiaaQFnExactFlyTubex10
namespace Go.Proofs.Ytbmplfpnhjhoiaa.QFnExactFlyTube
open Go.RowKit Go.Proofs.YtbmplfpnhjhoiaaW.PrintWords Go.Proofs.YtbmplfpnhjhoiaaW.PrintLast Go.Proofs.YtbmplfpnhjhoiaaW.PrintMore Go.Proofs.Ytbmplfpnhjhoiaa.Z
attribute [local go_sem] max2_int min2_int max_two min_two max_three min_three max_four min_four zdn   -- for this text's walks alone
set_option linter.unusedVariables false
set_option linter.unusedSimpArgs false
def impl_FlySpans.f (k : Nat) (a0_0 : Int) (a0_1 : Int) (l0_2 : List (S132)) (a0_3 : Int) (a0_4 : Int) : Option ((List (S110)) × Bool) := (impl_FlyPathOk.f k a0_0 a0_1 l0_2 a0_3 a0_4).bind fun t288 => (if t288 = true then ((impl_FlyPath_spans.f k a0_0 a0_1 l0_2 a0_3 a0_4 ([] : List Int)).bind fun bt289 => (some (bt289.1, bt289.2))) else (some (([] : List (S110)), false)))
set_option maxHeartbeats 8000000 in
set_option maxRecDepth 100000 in
theorem impl_FlySpans.calls (k : Nat) (a0_0 : Int) (a0_1 : Int) (A0_2 : Option Addr) (c0_2 : Nat) (l0_2 : List (S132)) (a0_3 : Int) (a0_4 : Int) (r1 : List (S110)) (r2 : Bool) (w : World) (hr0_2 : Kd.C k132 w A0_2 l0_2.length l0_2) (hc0_2 : l0_2.length ≤ c0_2) (h : impl_FlySpans.f k a0_0 a0_1 l0_2 a0_3 a0_4 = some (r1, r2)) :
 Calls Try.prog 74 #[.agg #[.int .i64 a0_0, .int .i64 a0_1, .slice A0_2 l0_2.length c0_2, .int .i64 a0_3, .int .i64 a0_4]] w fun e w' => ∃ v0_ : Value, e = .returned (.tuple #[v0_, .bool r2]) ∧ Kd.R k110 110 w' w.heap.size (fun _ => True) v0_ r1 ∧ Below w.heap.size w w' := by
 have hu68 := Try.underlying68
 have HR0_2 := zA hr0_2
 have HC0_2 := zA hc0_2
 clear hr0_2 hc0_2
 have HB := zA (Below.refl w.heap.size w)
 have H : ((impl_FlyPathOk.f k a0_0 a0_1 l0_2 a0_3 a0_4).bind fun t288 => (if t288 = true then ((impl_FlyPath_spans.f k a0_0 a0_1 l0_2 a0_3 a0_4 ([] : List Int)).bind fun bt289 => (some (bt289.1, bt289.2))) else (some (([] : List (S110)), false)))) = some (r1, r2) := h
 clear h
 replace H := Option.bind_eq_some_iff.mp H
 obtain ⟨t288, A20, H⟩ := H
 replace H : (if t288 = true then ((impl_FlyPath_spans.f k a0_0 a0_1 l0_2 a0_3 a0_4 ([] : List Int)).bind fun bt289 => (some (bt289.1, bt289.2))) else (some (([] : List (S110)), false))) = some (r1, r2) := H
 have A2 := zA A20
 clear A20
 by_cases c3 : t288 = true
 rotate_left
 ·replace c3 := Bool.eq_false_iff.mpr c3
  subst c3
  have H1 : (some (([] : List (S110)), false)) = some (r1, r2) := by rw [if_neg (show ¬ (false = true) by decide)] at H; exact H
  clear H
  have H := H1
  clear H1
  simp only [Option.some.injEq, Prod.mk.injEq] at H
  obtain ⟨rfl, rfl⟩ := H
  go_enter Try.func74, Try.ntmps74
  go_wp2_with (first | ((with_reducible refine gate_dst (N := 1) rfl ?_); refine box_event (by rfl) (N := 1) (by rfl) (cs := #[.int .i64 a0_0, .int .i64 a0_1, .slice A0_2 l0_2.length c0_2, .int .i64 a0_3, .int .i64 a0_4]) (t := 68) zg ?_; intro gb287 hg w10 hbox hb; have n0_ := zA (below_step (zs0 HB) hb); have n1_ := zA (hbox); have n2_ := zA ((by rw [hg]; exact (below_size (zs0 HB)) : w.heap.size ≤ gb287)); have n3_ := zA ((by rw [hg]; exact (below_size (zs0 HB)) : w.heap.size ≤ gb287)); clear HB; have HB := n0_; have BK287 := n1_; have GW287 := n2_; have GE287 := n3_; clear n0_ n1_ n2_ n3_; clear hb hbox hg; obtain ⟨hcz11_0, hcz11_1, hcz11_2, hcz11_3, hcz11_4⟩ := zd5 BK287; obtain ⟨hfz11_0, hfz11_1, hfz11_2, hfz11_3, hfz11_4⟩ := zn5 BK287) | ((with_reducible refine gate_callee (f := 99) rfl ?_); refine goesL_ (some 5) rfl rfl Try.func99 (by kernel_rfl) rfl #[.agg #[.int .i64 a0_0, .int .i64 a0_1, .slice A0_2 l0_2.length c0_2, .int .i64 a0_3, .int .i64 a0_4]] rfl zl ?_; (with_reducible refine (impl_FlyPathOk.calls k a0_0 a0_1 _ _ l0_2 a0_3 a0_4 false _ ?side1 ?side2 A2.out).mono ?_); (case side1 => exact zC HR0_2 HB); (case side2 => exact HC0_2.out); rintro e w12 ⟨rfl, hb⟩; refine ⟨_, rfl, ?_⟩; have n0_ := zb BK287 hb; have n1_ := zA (below_step (zs1 HB GE287) hb); clear BK287 HB; revert n0_ n1_; intro BK287 HB; (try clear hb); (try clear hb2); (try clear hk); (try clear hi)))
  go_ret2
  exact ⟨_, ze, by first | exact Kd.R_nil _ _ _ _ _ | exact Kd.N_nil _ _ _ _ _ | exact Kd.V_nil _ _ _ _ _ | exact Kd.Q_nil _ _ _ _ _ | exact Kd.S_nil _ _ _ _ _, zs1 HB GE287⟩
 subst c3
 have H1 : ((impl_FlyPath_spans.f k a0_0 a0_1 l0_2 a0_3 a0_4 ([] : List Int)).bind fun bt289 => (some (bt289.1, bt289.2))) = some (r1, r2) := by rw [if_pos rfl] at H; exact H
 clear H
 have H := H1
 clear H1
 replace H := Option.bind_eq_some_iff.mp H
 obtain ⟨⟨t289, t292⟩, A40, H⟩ := H
 replace H : (some (t289, t292)) = some (r1, r2) := H
 have A4 := zA A40
 clear A40
 simp only [Option.some.injEq, Prod.mk.injEq] at H
 obtain ⟨rfl, rfl⟩ := H
 go_enter Try.func74, Try.ntmps74
 go_wp2_with (first | ((with_reducible refine gate_dst (N := 1) rfl ?_); refine box_event (by rfl) (N := 1) (by rfl) (cs := #[.int .i64 a0_0, .int .i64 a0_1, .slice A0_2 l0_2.length c0_2, .int .i64 a0_3, .int .i64 a0_4]) (t := 68) zg ?_; intro gb287 hg w5 hbox hb; have n0_ := zA (below_step (zs0 HB) hb); have n1_ := zA (hbox); have n2_ := zA ((by rw [hg]; exact (below_size (zs0 HB)) : w.heap.size ≤ gb287)); have n3_ := zA ((by rw [hg]; exact (below_size (zs0 HB)) : w.heap.size ≤ gb287)); clear HB; have HB := n0_; have BK287 := n1_; have GW287 := n2_; have GE287 := n3_; clear n0_ n1_ n2_ n3_; clear hb hbox hg; obtain ⟨hcz6_0, hcz6_1, hcz6_2, hcz6_3, hcz6_4⟩ := zd5 BK287; obtain ⟨hfz6_0, hfz6_1, hfz6_2, hfz6_3, hfz6_4⟩ := zn5 BK287) | ((with_reducible refine gate_callee (f := 99) rfl ?_); refine goesL_ (some 5) rfl rfl Try.func99 (by kernel_rfl) rfl #[.agg #[.int .i64 a0_0, .int .i64 a0_1, .slice A0_2 l0_2.length c0_2, .int .i64 a0_3, .int .i64 a0_4]] rfl zl ?_; (with_reducible refine (impl_FlyPathOk.calls k a0_0 a0_1 _ _ l0_2 a0_3 a0_4 true _ ?side1 ?side2 A2.out).mono ?_); (case side1 => exact zC HR0_2 HB); (case side2 => exact HC0_2.out); rintro e w7 ⟨rfl, hb⟩; refine ⟨_, rfl, ?_⟩; have n0_ := zb BK287 hb; have n1_ := zA (below_step (zs1 HB GE287) hb); clear BK287 HB; revert n0_ n1_; intro BK287 HB; (try clear hb); (try clear hb2); (try clear hk); (try clear hi); obtain ⟨hcz8_0, hcz8_1, hcz8_2, hcz8_3, hcz8_4⟩ := zd5 BK287; obtain ⟨hfz8_0, hfz8_1, hfz8_2, hfz8_3, hfz8_4⟩ := zn5 BK287) | ((with_reducible refine gate_callee (f := 136) rfl ?_); refine goesL_ (some 8) rfl rfl Try.func136 (by kernel_rfl) rfl #[.agg #[.int .i64 a0_0, .int .i64 a0_1, .slice A0_2 l0_2.length c0_2, .int .i64 a0_3, .int .i64 a0_4], .slice none 0 0] rfl zl ?_; (refine (impl_FlyPath_spans.calls k a0_0 a0_1 _ _ l0_2 a0_3 a0_4 _ _ ([] : List Int) t289 t292 _ ?side1 ?side2 ?side3 ?side4 A4.out).mono ?_); (case side1 => exact zC HR0_2 HB); (case side2 => exact HC0_2.out); (case side3 => exact Kd.C_nil _ _); (case side4 => exact Nat.le_refl _); rintro e w9 ⟨v290, rfl, ho0, hb⟩; refine ⟨_, rfl, ?_⟩; have n0_ := zA (Kd.R_lower ho0 (below_size (zs1 HB GE287))); have n1_ := zb BK287 hb; have n2_ := zA (below_step (zs1 HB GE287) hb); clear BK287; clear HB; have HO291 := n0_; have BK287 := n1_; have HB := n2_; clear n0_ n1_ n2_; (try clear hb); (try clear hb2); (try clear hk); (try clear hi); (try clear ho0)))
 go_ret2
 exact ⟨_, ze, zr HO291, zs1 HB GE287⟩
def impl_FlyTube.l0 : Nat → List (S110) → List (S112) → List (S132) → Int → Int → Option ((List (S112)))
 | 0, _, _, _, _, _ => none
 | k + 1, x3, x5, x16, x17, x18 => if x18 < x17 then (if 0 ≤ x18 then (if x18 < (x16.length : Int) then (if x18 < (x3.length : Int) then (if 0 ≤ (wrap64 (x18 + 1)) then (if (wrap64 (x18 + 1)) < (x3.length : Int) then (if x5.length < 2932031007402 then (impl_FlyTube.l0 k x3 (x5 ++ [(⟨(rd_T132 x16 x18).f0, (rd_T132 x16 x18).f1, (rd_T132 x16 x18).f2, (rd_T132 x16 x18).f3, (rd_T110 x3 x18).f0, wrap64 (((rd_T110 x3 (wrap64 (x18 + 1))).f1) - 1)⟩ : S112)]) x16 x17 (wrap64 (x18 + 1))) else (none)) else (none)) else (none)) else (none)) else (none)) else (none)) else (some x5)
def impl_FlyTube.f (k : Nat) (a0_0 : Int) (a0_1 : Int) (l0_2 : List (S132)) (a0_3 : Int) (a0_4 : Int) : Option ((List (S112))) := (impl_FlySpans.f k a0_0 a0_1 l0_2 a0_3 a0_4).bind fun bt294 => (if bt294.2 = true then (impl_FlyTube.l0 k bt294.1 ([] : List (S112)) l0_2 (l0_2.length : Int) 0) else (some ([] : List (S112))))
def impl_FlyTube.T8 : Bool × List (List Nat × List Nat) := (true, [([], []), ([], []), ([1], [1]), ([], []), ([3], [3]), ([], []), ([5], [5]), ([], []), ([7], [7]), ([], []), ([], []), ([9, 10], [9, 10]), ([11], [11]), ([12], [12]), ([], []), ([], []), ([15], [15]), ([14, 16], [14, 16]), ([17], [17]), ([18], [18]), ([19], [19]), ([2, 4, 6, 8, 13, 20], [2, 4, 6, 8, 13, 20]), ([21], [21]), ([0, 22], [0, 22]), ([23, 23, 0, 1, 2, 3, 4, 5, 6, 7, 8, 9, 10, 11, 12, 13, 14, 15, 16, 17, 18, 19, 20, 21, 22, 23], [0, 23])])
def impl_FlyTube.B8 : List Nat := [0, 0, 2, 0, 8, 0, 32, 0, 128, 0, 0, 1536, 3584, 7680, 0, 0, 32768, 114688, 245760, 507904, 1032192, 2097150, 4194302, 8388607, 16777215]
theorem impl_FlyTube.tab8 : rtab .any (opsOf Try.f67 8) = impl_FlyTube.T8 := by kernel_rfl
theorem impl_FlyTube.bits8 : waitsOk impl_FlyTube.T8.2 impl_FlyTube.B8 = true := by kernel_rfl
set_option maxHeartbeats 8000000 in
set_option maxRecDepth 100000 in
theorem impl_FlyTube.calls (k : Nat) (a0_0 : Int) (a0_1 : Int) (A0_2 : Option Addr) (c0_2 : Nat) (l0_2 : List (S132)) (a0_3 : Int) (a0_4 : Int) (r : List (S112)) (w : World) (hr0_2 : Kd.C k132 w A0_2 l0_2.length l0_2) (hc0_2 : l0_2.length ≤ c0_2) (h : impl_FlyTube.f k a0_0 a0_1 l0_2 a0_3 a0_4 = some r) :
 Calls Try.prog 67 #[.agg #[.int .i64 a0_0, .int .i64 a0_1, .slice A0_2 l0_2.length c0_2, .int .i64 a0_3, .int .i64 a0_4]] w fun e w' => ∃ v0_ : Value, e = .returned (v0_) ∧ Kd.R k112 112 w' w.heap.size (fun _ => True) v0_ r ∧ Below w.heap.size w w' := by
 have hu68 := Try.underlying68
 have hu132 := Try.underlying132
 have hu112 := Try.underlying112
 have HR0_2 := zA hr0_2
 have HC0_2 := zA hc0_2
 clear hr0_2 hc0_2
 have HB := zA (Below.refl w.heap.size w)
 have H : ((impl_FlySpans.f k a0_0 a0_1 l0_2 a0_3 a0_4).bind fun bt294 => (if bt294.2 = true then (impl_FlyTube.l0 k bt294.1 ([] : List (S112)) l0_2 (l0_2.length : Int) 0) else (some ([] : List (S112))))) = some r := h
 clear h
 replace H := Option.bind_eq_some_iff.mp H
 obtain ⟨⟨t294, t297⟩, A20, H⟩ := H
 replace H : (if t297 = true then (impl_FlyTube.l0 k t294 ([] : List (S112)) l0_2 (l0_2.length : Int) 0) else (some ([] : List (S112)))) = some r := H
 have A2 := zA A20
 clear A20
 by_cases c3 : t297 = true
 rotate_left
 ·replace c3 := Bool.eq_false_iff.mpr c3
  subst c3
  have H1 : (some ([] : List (S112))) = some r := by rw [if_neg (show ¬ (false = true) by decide)] at H; exact H
  clear H
  have H := H1
  clear H1
  obtain rfl := Option.some.inj H
  go_enter Try.func67, Try.ntmps67
  go_wp2_with (first | ((with_reducible refine gate_dst (N := 1) rfl ?_); refine box_event (by rfl) (N := 1) (by rfl) (cs := #[.int .i64 a0_0, .int .i64 a0_1, .slice A0_2 l0_2.length c0_2, .int .i64 a0_3, .int .i64 a0_4]) (t := 68) zg ?_; intro gb293 hg w23 hbox hb; have n0_ := zA (below_step (zs0 HB) hb); have n1_ := zA (hbox); have n2_ := zA ((by rw [hg]; exact (below_size (zs0 HB)) : w.heap.size ≤ gb293)); have n3_ := zA ((by rw [hg]; exact (below_size (zs0 HB)) : w.heap.size ≤ gb293)); clear HB; have HB := n0_; have BK293 := n1_; have GW293 := n2_; have GE293 := n3_; clear n0_ n1_ n2_ n3_; clear hb hbox hg; obtain ⟨hcz24_0, hcz24_1, hcz24_2, hcz24_3, hcz24_4⟩ := zd5 BK293; obtain ⟨hfz24_0, hfz24_1, hfz24_2, hfz24_3, hfz24_4⟩ := zn5 BK293) | ((with_reducible refine gate_callee (f := 74) rfl ?_); refine goesL_ (some 10) rfl rfl Try.func74 (by kernel_rfl) rfl #[.agg #[.int .i64 a0_0, .int .i64 a0_1, .slice A0_2 l0_2.length c0_2, .int .i64 a0_3, .int .i64 a0_4]] rfl zl ?_; (with_reducible refine (impl_FlySpans.calls k a0_0 a0_1 _ _ l0_2 a0_3 a0_4 t294 false _ ?side1 ?side2 A2.out).mono ?_); (case side1 => exact zC HR0_2 HB); (case side2 => exact HC0_2.out); rintro e w25 ⟨v295, rfl, ho0, hb⟩; refine ⟨_, rfl, ?_⟩; have n0_ := zA (Kd.R_lower ho0 (below_size (zs1 HB GE293))); have n1_ := zb BK293 hb; have n2_ := zA (below_step (zs1 HB GE293) hb); clear BK293; clear HB; have HO296 := n0_; have BK293 := n1_; have HB := n2_; clear n0_ n1_ n2_; (try clear hb); (try clear hb2); (try clear hk); (try clear hi); (try clear ho0)))
  go_ret
  exact ⟨_, ze, by first | exact Kd.R_nil _ _ _ _ _ | exact Kd.N_nil _ _ _ _ _ | exact Kd.V_nil _ _ _ _ _ | exact Kd.Q_nil _ _ _ _ _ | exact Kd.S_nil _ _ _ _ _, zs1 HB GE293⟩
 subst c3
 have H1 : (impl_FlyTube.l0 k t294 ([] : List (S112)) l0_2 (l0_2.length : Int) 0) = some r := by rw [if_pos rfl] at H; exact H
 clear H
 have H := H1
 clear H1
 have H' := zA H
 clear H
 go_enter Try.func67, Try.ntmps67
 go_wp2_with (first | ((with_reducible refine gate_dst (N := 1) rfl ?_); refine box_event (by rfl) (N := 1) (by rfl) (cs := #[.int .i64 a0_0, .int .i64 a0_1, .slice A0_2 l0_2.length c0_2, .int .i64 a0_3, .int .i64 a0_4]) (t := 68) zg ?_; intro gb293 hg w4 hbox hb; have n0_ := zA (below_step (zs0 HB) hb); have n1_ := zA (hbox); have n2_ := zA ((by rw [hg]; exact (below_size (zs0 HB)) : w.heap.size ≤ gb293)); have n3_ := zA ((by rw [hg]; exact (below_size (zs0 HB)) : w.heap.size ≤ gb293)); clear HB; have HB := n0_; have BK293 := n1_; have GW293 := n2_; have GE293 := n3_; clear n0_ n1_ n2_ n3_; clear hb hbox hg; obtain ⟨hcz5_0, hcz5_1, hcz5_2, hcz5_3, hcz5_4⟩ := zd5 BK293; obtain ⟨hfz5_0, hfz5_1, hfz5_2, hfz5_3, hfz5_4⟩ := zn5 BK293) | ((with_reducible refine gate_callee (f := 74) rfl ?_); refine goesL_ (some 10) rfl rfl Try.func74 (by kernel_rfl) rfl #[.agg #[.int .i64 a0_0, .int .i64 a0_1, .slice A0_2 l0_2.length c0_2, .int .i64 a0_3, .int .i64 a0_4]] rfl zl ?_; (with_reducible refine (impl_FlySpans.calls k a0_0 a0_1 _ _ l0_2 a0_3 a0_4 t294 true _ ?side1 ?side2 A2.out).mono ?_); (case side1 => exact zC HR0_2 HB); (case side2 => exact HC0_2.out); rintro e w6 ⟨v295, rfl, ho0, hb⟩; refine ⟨_, rfl, ?_⟩; have n0_ := zA (Kd.R_lower ho0 (below_size (zs1 HB GE293))); have n1_ := zb BK293 hb; have n2_ := zA (below_step (zs1 HB GE293) hb); clear BK293; clear HB; have HO296 := n0_; have BK293 := n1_; have HB := n2_; clear n0_ n1_ n2_; (try clear hb); (try clear hb2); (try clear hk); (try clear hi); (try clear ho0); obtain ⟨hcz7_0, hcz7_1, hcz7_2, hcz7_3, hcz7_4⟩ := zd5 BK293; obtain ⟨hfz7_0, hfz7_1, hfz7_2, hfz7_3, hfz7_4⟩ := zn5 BK293))
 go_loopg [5, 18] k (fun kq v5 v18 w' => ∃ (x5_1 : List (S112)) (x18_1 : Int), v18 = .int .i64 x18_1 ∧ Aside0 (impl_FlyTube.l0 kq t294 x5_1 l0_2 (l0_2.length : Int) x18_1 = some r) ∧ Aside0 (kq ≤ k) ∧ Aside0 (Kd.R k110 110 w' w.heap.size (fun _ => True) v295 t294) ∧ Aside0 (Kd.R k112 112 w' w.heap.size (fun _ => True) v5 x5_1) ∧ Aside0 (w'.heap[gb293]? = some (.cells #[.int .i64 a0_0, .int .i64 a0_1, (.slice A0_2 l0_2.length c0_2), .int .i64 a0_3, .int .i64 a0_4] 68 (0, 0))) ∧ Aside0 (Below w.heap.size w w'))
 case atStart => exact ⟨(([] : List (S112))), (0), zi, H', ⟨Nat.le_refl _⟩, ⟨zr HO296⟩, ⟨by first | exact Kd.R_nil _ _ _ _ _ | exact Kd.N_nil _ _ _ _ _ | exact Kd.V_nil _ _ _ _ _ | exact Kd.Q_nil _ _ _ _ _ | exact Kd.S_nil _ _ _ _ _⟩, ⟨zh BK293⟩, ⟨zs1 HB GE293⟩⟩
 case round =>
  clear H'
  try clear p2
  try clear c3
  try clear c6
  try clear c7
  try clear hcz5_0
  try clear hcz5_1
  try clear hcz5_2
  try clear hcz5_3
  try clear hcz5_4
  try clear hcz7_0
  try clear hcz7_1
  try clear hcz7_2
  try clear hcz7_3
  try clear hcz7_4
  try clear hfz5_0
  try clear hfz5_1
  try clear hfz5_2
  try clear hfz5_3
  try clear hfz5_4
  try clear hfz7_0
  try clear hfz7_1
  try clear hfz7_2
  try clear hfz7_3
  try clear hfz7_4
  obtain ⟨x5_1, x18_1, rfl, HA, HK1, HO_3, HO_5, BK293, HB⟩ := hrel
  cases gk with
  | zero => exact absurd HA.out (by simp [impl_FlyTube.l0])
  | succ k1 =>
   have H := HA.out
   clear HA
   simp only [impl_FlyTube.l0] at H
   by_cases c8 : x18_1 < (l0_2.length : Int)
   rotate_left
   ·rw [if_neg c8] at H
    have c8b0 : decide (x18_1 < (l0_2.length : Int)) = false := decide_eq_false c8
    clear c8
    obtain rfl := Option.some.inj H
    go_wp2
    go_ret
    exact ⟨_, ze, zr HO_5, zs1 HB GE293⟩
   rw [if_pos c8] at H
   have c8b0 : decide (x18_1 < (l0_2.length : Int)) = true := decide_eq_true c8
   clear c8
   by_cases c9 : 0 ≤ x18_1
   rotate_left
   ·rw [if_neg c9] at H
    exact absurd H (by simp)
   rw [if_pos c9] at H
   have c9b0 : decide (0 ≤ x18_1) = true := decide_eq_true c9
   clear c9
   by_cases c10 : x18_1 < (l0_2.length : Int)
   rotate_left
   ·rw [if_neg c10] at H
    exact absurd H (by simp)
   rw [if_pos c10] at H
   have c10b0 : decide (x18_1 < (l0_2.length : Int)) = true := decide_eq_true c10
   clear c10
   by_cases c11 : x18_1 < (t294.length : Int)
   rotate_left
   ·rw [if_neg c11] at H
    exact absurd H (by simp)
   rw [if_pos c11] at H
   have c11b0 : decide (x18_1 < (t294.length : Int)) = true := decide_eq_true c11
   clear c11
   obtain ⟨ji12, hji12⟩ : ∃ j_ : Int, (wrap64 (x18_1 + 1)) = j_ := ⟨_, rfl⟩
   replace H : (if 0 ≤ (ji12) then (if (ji12) < (t294.length : Int) then (if x5_1.length < 2932031007402 then (impl_FlyTube.l0 k1 t294 (x5_1 ++ [(⟨(rd_T132 l0_2 x18_1).f0, (rd_T132 l0_2 x18_1).f1, (rd_T132 l0_2 x18_1).f2, (rd_T132 l0_2 x18_1).f3, (rd_T110 t294 x18_1).f0, wrap64 (((rd_T110 t294 (ji12)).f1) - 1)⟩ : S112)]) l0_2 (l0_2.length : Int) ji12) else (none)) else (none)) else (none)) = some r := by first | (rw [hji12] at H; exact H) | (simp only [hji12] at H ⊢; exact H)
   have hji12w : (IntKind.i64.wrap (x18_1 + 1)) = ji12 := (i64_w _).trans hji12
   by_cases c13 : 0 ≤ (ji12)
   rotate_left
   ·rw [if_neg c13] at H
    exact absurd H (by simp)
   rw [if_pos c13] at H
   have c13b0 : decide (0 ≤ (ji12)) = true := decide_eq_true c13
   clear c13
   by_cases c14 : (ji12) < (t294.length : Int)
   rotate_left
   ·rw [if_neg c14] at H
    exact absurd H (by simp)
   rw [if_pos c14] at H
   have c14b0 : decide ((ji12) < (t294.length : Int)) = true := decide_eq_true c14
   clear c14
   by_cases c15 : x5_1.length < 2932031007402
   rotate_left
   ·rw [if_neg c15] at H
    exact absurd H (by simp)
   rw [if_pos c15] at H
   have LMc15 := zA c15
   clear c15
   obtain ⟨y302, hy302⟩ : ∃ y_ : List (S112), y_ = (x5_1 ++ [(⟨(rd_T132 l0_2 x18_1).f0, (rd_T132 l0_2 x18_1).f1, (rd_T132 l0_2 x18_1).f2, (rd_T132 l0_2 x18_1).f3, (rd_T110 t294 x18_1).f0, wrap64 (((rd_T110 t294 (ji12)).f1) - 1)⟩ : S112)]) := ⟨_, rfl⟩
   replace H : (impl_FlyTube.l0 k1 t294 y302 l0_2 (l0_2.length : Int) ji12) = some r := by first | (rw [hy302]; with_reducible exact H) | (have H2_ := (Option.bind_some _ _).symm.trans H; rw [hy302]; with_reducible exact H2_) | (have H2_ := (Option.bind_some _ _).symm.trans H; with_reducible exact H2_) | with_reducible exact H | (rw [hy302]; exact H) | exact H
   have Ny302 := zA hy302
   clear hy302
   have H' := zA H
   clear H
   have p298 : 0 ≤ (x18_1 : Int) := za
   have q298 : x18_1 < (l0_2.length : Int) := za
   obtain ⟨ad298, e298, hx298_0, hx298_1, hx298_2, hx298_3, hx298_4, hx298_5, hx298_6⟩ := at_T132 HR0_2.out x18_1 p298 q298
   cases e298
   replace hx298_0 := zx HB hx298_0
   replace hx298_1 := zx HB hx298_1
   replace hx298_2 := zx HB hx298_2
   replace hx298_3 := zx HB hx298_3
   replace hx298_4 := zx HB hx298_4
   replace hx298_5 := zx HB hx298_5
   replace hx298_6 := zx HB hx298_6
   replace p298 := eq_true p298
   replace q298 := eq_true q298
   try go_wp2_with (first | ((with_reducible refine gate_dst (N := 7) rfl ?_); refine box_event (by rfl) (N := 7) (by rfl) (cs := #[.int .i64 0, .int .i64 0, .int .i64 0, .int .i64 0, .int .i64 0, .int .i64 0, .bool false]) (t := 132) zg ?_; intro gb299 hg w16 hbox hb; have n0_ := zA (Kd.R_below (zr HO_3) hb); have n1_ := zA (Kd.R_below (zr HO_5) hb); have n2_ := zb BK293 hb; have n3_ := zA (below_step (zs1 HB GE293) hb); have n4_ := zA (hbox); have n5_ := zA ((by rw [hg]; exact (below_size (zs1 HB GE293)) : w.heap.size ≤ gb299)); have n6_ := zA ((by rw [hg]; exact (below_size (zs1 HB GE293)) : w.heap.size ≤ gb299)); have n7_ := zA ((by rw [hg]; exact Nat.ne_of_lt (blk_lt (g := gb293) (o := .cells #[.int .i64 a0_0, .int .i64 a0_1, .slice (some ad298) l0_2.length c0_2, .int .i64 a0_3, .int .i64 a0_4] 68 (0, 0)) (zh BK293)) : gb293 ≠ gb299)); have n8_ := zA ((by rw [hg]; exact Nat.ne_of_gt (blk_lt (g := gb293) (o := .cells #[.int .i64 a0_0, .int .i64 a0_1, .slice (some ad298) l0_2.length c0_2, .int .i64 a0_3, .int .i64 a0_4] 68 (0, 0)) (zh BK293)) : gb299 ≠ gb293)); clear HO_3; clear HO_5; clear BK293; clear HB; have HO_3 := n0_; have HO_5 := n1_; have BK293 := n2_; have HB := n3_; have BK299 := n4_; have GW299 := n5_; have GE299 := n6_; have NB293_299 := n7_; have NB299_293 := n8_; clear n0_ n1_ n2_ n3_ n4_ n5_ n6_ n7_ n8_; clear hb hbox hg; have hnb17 := NB299_293.out; have hnc17 := NB293_299.out; obtain ⟨hcz18_0, hcz18_1, hcz18_2, hcz18_3, hcz18_4, hcz18_5, hcz18_6⟩ := zd7 BK299; obtain ⟨hfz18_0, hfz18_1, hfz18_2, hfz18_3, hfz18_4, hfz18_5, hfz18_6⟩ := zn7 BK299))
   have n0_ : Aside0 (Kd.R k110 110 (((((((w16.setCell ⟨gb299, 0, none⟩ (.int .i64 ((rd_T132 l0_2 x18_1).f0))).setCell ⟨gb299, 1, none⟩ (.int .i64 ((rd_T132 l0_2 x18_1).f1))).setCell ⟨gb299, 2, none⟩ (.int .i64 ((rd_T132 l0_2 x18_1).f2))).setCell ⟨gb299, 3, none⟩ (.int .i64 ((rd_T132 l0_2 x18_1).f3))).setCell ⟨gb299, 4, none⟩ (.int .i64 ((rd_T132 l0_2 x18_1).f4))).setCell ⟨gb299, 5, none⟩ (.int .i64 ((rd_T132 l0_2 x18_1).f5))).setCell ⟨gb299, 6, none⟩ (.bool ((rd_T132 l0_2 x18_1).f6))) w.heap.size (fun _ => True) v295 t294) := ⟨by (with_reducible repeat (first | apply Kd.R_alloc | apply Kd.R_drewN | apply Kd.R_drew)); exact Kd.R_mono (Kd.R_far (p := ⟨gb299, 6, none⟩) (Kd.R_far (p := ⟨gb299, 5, none⟩) (Kd.R_far (p := ⟨gb299, 4, none⟩) (Kd.R_far (p := ⟨gb299, 3, none⟩) (Kd.R_far (p := ⟨gb299, 2, none⟩) (Kd.R_far (p := ⟨gb299, 1, none⟩) (Kd.R_far (p := ⟨gb299, 0, none⟩) (Kd.R_types HO_3.out BK299.out (by decide)) (fun _ hk => hk.2) (.int .i64 ((rd_T132 l0_2 x18_1).f0))) (fun _ hk => hk.2) (.int .i64 ((rd_T132 l0_2 x18_1).f1))) (fun _ hk => hk.2) (.int .i64 ((rd_T132 l0_2 x18_1).f2))) (fun _ hk => hk.2) (.int .i64 ((rd_T132 l0_2 x18_1).f3))) (fun _ hk => hk.2) (.int .i64 ((rd_T132 l0_2 x18_1).f4))) (fun _ hk => hk.2) (.int .i64 ((rd_T132 l0_2 x18_1).f5))) (fun _ hk => hk.2) (.bool ((rd_T132 l0_2 x18_1).f6))) (fun _ hk => trivial)⟩
   have n1_ : Aside0 (Kd.R k112 112 (((((((w16.setCell ⟨gb299, 0, none⟩ (.int .i64 ((rd_T132 l0_2 x18_1).f0))).setCell ⟨gb299, 1, none⟩ (.int .i64 ((rd_T132 l0_2 x18_1).f1))).setCell ⟨gb299, 2, none⟩ (.int .i64 ((rd_T132 l0_2 x18_1).f2))).setCell ⟨gb299, 3, none⟩ (.int .i64 ((rd_T132 l0_2 x18_1).f3))).setCell ⟨gb299, 4, none⟩ (.int .i64 ((rd_T132 l0_2 x18_1).f4))).setCell ⟨gb299, 5, none⟩ (.int .i64 ((rd_T132 l0_2 x18_1).f5))).setCell ⟨gb299, 6, none⟩ (.bool ((rd_T132 l0_2 x18_1).f6))) w.heap.size (fun _ => True) u5 x5_1) := ⟨by (with_reducible repeat (first | apply Kd.R_alloc | apply Kd.R_drewN | apply Kd.R_drew)); exact Kd.R_mono (Kd.R_far (p := ⟨gb299, 6, none⟩) (Kd.R_far (p := ⟨gb299, 5, none⟩) (Kd.R_far (p := ⟨gb299, 4, none⟩) (Kd.R_far (p := ⟨gb299, 3, none⟩) (Kd.R_far (p := ⟨gb299, 2, none⟩) (Kd.R_far (p := ⟨gb299, 1, none⟩) (Kd.R_far (p := ⟨gb299, 0, none⟩) (Kd.R_types HO_5.out BK299.out (by decide)) (fun _ hk => hk.2) (.int .i64 ((rd_T132 l0_2 x18_1).f0))) (fun _ hk => hk.2) (.int .i64 ((rd_T132 l0_2 x18_1).f1))) (fun _ hk => hk.2) (.int .i64 ((rd_T132 l0_2 x18_1).f2))) (fun _ hk => hk.2) (.int .i64 ((rd_T132 l0_2 x18_1).f3))) (fun _ hk => hk.2) (.int .i64 ((rd_T132 l0_2 x18_1).f4))) (fun _ hk => hk.2) (.int .i64 ((rd_T132 l0_2 x18_1).f5))) (fun _ hk => hk.2) (.bool ((rd_T132 l0_2 x18_1).f6))) (fun _ hk => trivial)⟩
   have n2_ : Aside0 ((((((((w16.setCell ⟨gb299, 0, none⟩ (.int .i64 ((rd_T132 l0_2 x18_1).f0))).setCell ⟨gb299, 1, none⟩ (.int .i64 ((rd_T132 l0_2 x18_1).f1))).setCell ⟨gb299, 2, none⟩ (.int .i64 ((rd_T132 l0_2 x18_1).f2))).setCell ⟨gb299, 3, none⟩ (.int .i64 ((rd_T132 l0_2 x18_1).f3))).setCell ⟨gb299, 4, none⟩ (.int .i64 ((rd_T132 l0_2 x18_1).f4))).setCell ⟨gb299, 5, none⟩ (.int .i64 ((rd_T132 l0_2 x18_1).f5))).setCell ⟨gb299, 6, none⟩ (.bool ((rd_T132 l0_2 x18_1).f6))).heap[gb293]? = some (.cells #[.int .i64 a0_0, .int .i64 a0_1, .slice (some ad298) l0_2.length c0_2, .int .i64 a0_3, .int .i64 a0_4] 68 (0, 0))) := ⟨by (with_reducible repeat (first | refine blk_drewN ?_ _ | refine blk_drew ?_ | refine blk_alloc ?_ _)); refine blk_far ?_ NB293_299.out _; (with_reducible repeat (first | refine blk_drewN ?_ _ | refine blk_drew ?_ | refine blk_alloc ?_ _)); refine blk_far ?_ NB293_299.out _; (with_reducible repeat (first | refine blk_drewN ?_ _ | refine blk_drew ?_ | refine blk_alloc ?_ _)); refine blk_far ?_ NB293_299.out _; (with_reducible repeat (first | refine blk_drewN ?_ _ | refine blk_drew ?_ | refine blk_alloc ?_ _)); refine blk_far ?_ NB293_299.out _; (with_reducible repeat (first | refine blk_drewN ?_ _ | refine blk_drew ?_ | refine blk_alloc ?_ _)); refine blk_far ?_ NB293_299.out _; (with_reducible repeat (first | refine blk_drewN ?_ _ | refine blk_drew ?_ | refine blk_alloc ?_ _)); refine blk_far ?_ NB293_299.out _; (with_reducible repeat (first | refine blk_drewN ?_ _ | refine blk_drew ?_ | refine blk_alloc ?_ _)); refine blk_far ?_ NB293_299.out _; (with_reducible repeat (first | refine blk_drewN ?_ _ | refine blk_drew ?_ | refine blk_alloc ?_ _)); exact BK293.out⟩
   have n3_ : Aside0 ((((((((w16.setCell ⟨gb299, 0, none⟩ (.int .i64 ((rd_T132 l0_2 x18_1).f0))).setCell ⟨gb299, 1, none⟩ (.int .i64 ((rd_T132 l0_2 x18_1).f1))).setCell ⟨gb299, 2, none⟩ (.int .i64 ((rd_T132 l0_2 x18_1).f2))).setCell ⟨gb299, 3, none⟩ (.int .i64 ((rd_T132 l0_2 x18_1).f3))).setCell ⟨gb299, 4, none⟩ (.int .i64 ((rd_T132 l0_2 x18_1).f4))).setCell ⟨gb299, 5, none⟩ (.int .i64 ((rd_T132 l0_2 x18_1).f5))).setCell ⟨gb299, 6, none⟩ (.bool ((rd_T132 l0_2 x18_1).f6))).heap[gb299]? = some (.cells #[.int .i64 ((rd_T132 l0_2 x18_1).f0), .int .i64 ((rd_T132 l0_2 x18_1).f1), .int .i64 ((rd_T132 l0_2 x18_1).f2), .int .i64 ((rd_T132 l0_2 x18_1).f3), .int .i64 ((rd_T132 l0_2 x18_1).f4), .int .i64 ((rd_T132 l0_2 x18_1).f5), .bool ((rd_T132 l0_2 x18_1).f6)] 132 (0, 0))) := ⟨by (with_reducible repeat (first | refine blk_drewN ?_ _ | refine blk_drew ?_ | refine blk_alloc ?_ _)); refine blk_put (cs := #[.int .i64 ((rd_T132 l0_2 x18_1).f0), .int .i64 ((rd_T132 l0_2 x18_1).f1), .int .i64 ((rd_T132 l0_2 x18_1).f2), .int .i64 ((rd_T132 l0_2 x18_1).f3), .int .i64 ((rd_T132 l0_2 x18_1).f4), .int .i64 ((rd_T132 l0_2 x18_1).f5), .bool false]) ?_ 6 _ rfl; (with_reducible repeat (first | refine blk_drewN ?_ _ | refine blk_drew ?_ | refine blk_alloc ?_ _)); refine blk_put (cs := #[.int .i64 ((rd_T132 l0_2 x18_1).f0), .int .i64 ((rd_T132 l0_2 x18_1).f1), .int .i64 ((rd_T132 l0_2 x18_1).f2), .int .i64 ((rd_T132 l0_2 x18_1).f3), .int .i64 ((rd_T132 l0_2 x18_1).f4), .int .i64 0, .bool false]) ?_ 5 _ rfl; (with_reducible repeat (first | refine blk_drewN ?_ _ | refine blk_drew ?_ | refine blk_alloc ?_ _)); refine blk_put (cs := #[.int .i64 ((rd_T132 l0_2 x18_1).f0), .int .i64 ((rd_T132 l0_2 x18_1).f1), .int .i64 ((rd_T132 l0_2 x18_1).f2), .int .i64 ((rd_T132 l0_2 x18_1).f3), .int .i64 0, .int .i64 0, .bool false]) ?_ 4 _ rfl; (with_reducible repeat (first | refine blk_drewN ?_ _ | refine blk_drew ?_ | refine blk_alloc ?_ _)); refine blk_put (cs := #[.int .i64 ((rd_T132 l0_2 x18_1).f0), .int .i64 ((rd_T132 l0_2 x18_1).f1), .int .i64 ((rd_T132 l0_2 x18_1).f2), .int .i64 0, .int .i64 0, .int .i64 0, .bool false]) ?_ 3 _ rfl; (with_reducible repeat (first | refine blk_drewN ?_ _ | refine blk_drew ?_ | refine blk_alloc ?_ _)); refine blk_put (cs := #[.int .i64 ((rd_T132 l0_2 x18_1).f0), .int .i64 ((rd_T132 l0_2 x18_1).f1), .int .i64 0, .int .i64 0, .int .i64 0, .int .i64 0, .bool false]) ?_ 2 _ rfl; (with_reducible repeat (first | refine blk_drewN ?_ _ | refine blk_drew ?_ | refine blk_alloc ?_ _)); refine blk_put (cs := #[.int .i64 ((rd_T132 l0_2 x18_1).f0), .int .i64 0, .int .i64 0, .int .i64 0, .int .i64 0, .int .i64 0, .bool false]) ?_ 1 _ rfl; (with_reducible repeat (first | refine blk_drewN ?_ _ | refine blk_drew ?_ | refine blk_alloc ?_ _)); refine blk_put (cs := #[.int .i64 0, .int .i64 0, .int .i64 0, .int .i64 0, .int .i64 0, .int .i64 0, .bool false]) ?_ 0 _ rfl; (with_reducible repeat (first | refine blk_drewN ?_ _ | refine blk_drew ?_ | refine blk_alloc ?_ _)); exact BK299.out⟩
   have n4_ : Aside0 (Below w.heap.size w (((((((w16.setCell ⟨gb299, 0, none⟩ (.int .i64 ((rd_T132 l0_2 x18_1).f0))).setCell ⟨gb299, 1, none⟩ (.int .i64 ((rd_T132 l0_2 x18_1).f1))).setCell ⟨gb299, 2, none⟩ (.int .i64 ((rd_T132 l0_2 x18_1).f2))).setCell ⟨gb299, 3, none⟩ (.int .i64 ((rd_T132 l0_2 x18_1).f3))).setCell ⟨gb299, 4, none⟩ (.int .i64 ((rd_T132 l0_2 x18_1).f4))).setCell ⟨gb299, 5, none⟩ (.int .i64 ((rd_T132 l0_2 x18_1).f5))).setCell ⟨gb299, 6, none⟩ (.bool ((rd_T132 l0_2 x18_1).f6)))) := ⟨zs2 HB GE293 GE299⟩
   (try clear HO_3)
   (try clear HO_5)
   (try clear BK293)
   (try clear BK299)
   (try clear HB)
   generalize (((((((w16.setCell ⟨gb299, 0, none⟩ (.int .i64 ((rd_T132 l0_2 x18_1).f0))).setCell ⟨gb299, 1, none⟩ (.int .i64 ((rd_T132 l0_2 x18_1).f1))).setCell ⟨gb299, 2, none⟩ (.int .i64 ((rd_T132 l0_2 x18_1).f2))).setCell ⟨gb299, 3, none⟩ (.int .i64 ((rd_T132 l0_2 x18_1).f3))).setCell ⟨gb299, 4, none⟩ (.int .i64 ((rd_T132 l0_2 x18_1).f4))).setCell ⟨gb299, 5, none⟩ (.int .i64 ((rd_T132 l0_2 x18_1).f5))).setCell ⟨gb299, 6, none⟩ (.bool ((rd_T132 l0_2 x18_1).f6))) = w19 at n0_ n1_ n2_ n3_ n4_ ⊢
   have HO_3 := n0_
   have HO_5 := n1_
   have BK293 := n2_
   have BK299 := n3_
   have HB := n4_
   clear n0_ n1_ n2_ n3_ n4_
   have n0_ := zA (Kd.R_drew HO_3.out)
   have n1_ := zA (Kd.R_drew HO_5.out)
   have n2_ := zA (blk_drew BK293.out)
   have n3_ := zA (blk_drew BK299.out)
   have n4_ := zA (below_drew1 HB.out)
   clear HO_3 HO_5 BK293 BK299 HB
   revert n0_ n1_ n2_ n3_ n4_
   intro HO_3 HO_5 BK293 BK299 HB
   obtain ⟨Ao21, co21, eo21⟩ := Kd.R_slice HO_3.out
   (first | subst eo21 | (injection eo21 with f1_ f2_ f3_; have f4_ := f1_.symm; have f5_ := f3_.symm; clear f1_ f2_ f3_; subst f4_; subst f5_))
   have p300 : 0 ≤ (x18_1 : Int) := za
   have q300 : x18_1 < (t294.length : Int) := za
   obtain ⟨ad300, e300, hx300_0, hx300_1⟩ := at_T110 (Kd.R_reads' HO_3.out).2.2 x18_1 p300 q300
   cases e300
   replace p300 := eq_true p300
   replace q300 := eq_true q300
   have p301 : 0 ≤ ((ji12) : Int) := za
   have q301 : (ji12) < (t294.length : Int) := za
   obtain ⟨ad301, e301, hx301_0, hx301_1⟩ := at_T110 (Kd.R_reads' HO_3.out).2.2 (ji12) p301 q301
   obtain rfl : ad300 = ad301 := (by injection e301)
   replace p301 := eq_true p301
   replace q301 := eq_true q301
   refine start_ (n := 25) (S := fun w' => w'.cell? ⟨gb299, 0, none⟩ = some (.int .i64 ((rd_T132 l0_2 x18_1).f0)) ∧ w'.cell? ⟨gb299, 1, none⟩ = some (.int .i64 ((rd_T132 l0_2 x18_1).f1)) ∧ w'.cell? ⟨gb299, 2, none⟩ = some (.int .i64 ((rd_T132 l0_2 x18_1).f2)) ∧ w'.cell? ⟨gb299, 3, none⟩ = some (.int .i64 ((rd_T132 l0_2 x18_1).f3)) ∧ w'.cell? ⟨gb299, 4, none⟩ = some (.int .i64 ((rd_T132 l0_2 x18_1).f4)) ∧ w'.cell? ⟨gb299, 5, none⟩ = some (.int .i64 ((rd_T132 l0_2 x18_1).f5)) ∧ w'.cell? ⟨gb299, 6, none⟩ = some (.bool ((rd_T132 l0_2 x18_1).f6)) ∧ w'.cell? (ad300.add ((x18_1).toNat * 2)) = some (.int .i64 ((rd_T110 t294 x18_1).f0)) ∧ w'.cell? ⟨(ad300.add ((x18_1).toNat * 2)).block, (ad300.add ((x18_1).toNat * 2)).off + 1, none⟩ = some (.int .i64 ((rd_T110 t294 x18_1).f1)) ∧ w'.cell? (ad300.add (((ji12)).toNat * 2)) = some (.int .i64 ((rd_T110 t294 (ji12)).f0)) ∧ w'.cell? ⟨(ad300.add (((ji12)).toNat * 2)).block, (ad300.add (((ji12)).toNat * 2)).off + 1, none⟩ = some (.int .i64 ((rd_T110 t294 (ji12)).f1))) (ds := [22, 23]) #[F,F,F,F,F,F,F,F,F,F,F,F,F,F,F,F,F,F,F,F,F,F,F,F,F] (by kernel_rfl) rfl rfl ⟨(blk_cell BK299.out 0).trans rfl, (blk_cell BK299.out 1).trans rfl, (blk_cell BK299.out 2).trans rfl, (blk_cell BK299.out 3).trans rfl, (blk_cell BK299.out 4).trans rfl, (blk_cell BK299.out 5).trans rfl, (blk_cell BK299.out 6).trans rfl, hx300_0, hx300_1, hx301_0, hx301_1⟩ (fun hHeld => ?_); refine with_tabW impl_FlyTube.tab8 impl_FlyTube.bits8 (fun HT_ HW_ => ?_)
   generalize w19.drew = w20 at HO_3 HO_5 BK293 BK299 HB hx300_0 hx300_1 hx301_0 hx301_1 hHeld ⊢
   refine pure_ (i := 0) (N := some 23) (v := ?_) (a' := ?_) #[T,F,F,F,F,F,F,F,F,F,F,F,F,F,F,F,F,F,F,F,F,F,F,F,F] rfl rfl (any_of HT_.out (by kernel_rfl)) (fun _ _ _ h => h) (Or.inl ⟨by rfl, ?_⟩) ?_ ?_; rotate_left; exact zy; rotate_left; exact zput
   refine pure_ (i := 1) (N := some 24) (v := ?_) (a' := ?_) #[T,T,F,F,F,F,F,F,F,F,F,F,F,F,F,F,F,F,F,F,F,F,F,F,F] rfl rfl (any_of HT_.out (by kernel_rfl)) (fun _ _ _ h => h) (Or.inl ⟨by rfl, ?_⟩) ?_ ?_; rotate_left; exact zy; rotate_left; exact zput
   refine pure_ (i := 3) (N := some 26) (v := ?_) (a' := ?_) #[T,T,F,T,F,F,F,F,F,F,F,F,F,F,F,F,F,F,F,F,F,F,F,F,F] rfl rfl (any_of HT_.out (by kernel_rfl)) (fun _ _ _ h => h) (Or.inl ⟨by rfl, ?_⟩) ?_ ?_; rotate_left; exact zy; rotate_left; exact zput
   refine pure_ (i := 5) (N := some 28) (v := ?_) (a' := ?_) #[T,T,F,T,F,T,F,F,F,F,F,F,F,F,F,F,F,F,F,F,F,F,F,F,F] rfl rfl (any_of HT_.out (by kernel_rfl)) (fun _ _ _ h => h) (Or.inl ⟨by rfl, ?_⟩) ?_ ?_; rotate_left; exact zy; rotate_left; exact zput
   refine pure_ (i := 7) (N := some 30) (v := ?_) (a' := ?_) #[T,T,F,T,F,T,F,T,F,F,F,F,F,F,F,F,F,F,F,F,F,F,F,F,F] rfl rfl (any_of HT_.out (by kernel_rfl)) (fun _ _ _ h => h) (Or.inl ⟨by rfl, ?_⟩) ?_ ?_; rotate_left; exact zy; rotate_left; exact zput
   refine pure_ (i := 9) (N := some 32) (v := ?_) (a' := ?_) #[T,T,F,T,F,T,F,T,F,T,F,F,F,F,F,F,F,F,F,F,F,F,F,F,F] rfl rfl (any_of HT_.out (by kernel_rfl)) (fun _ _ _ h => h) (Or.inl ⟨by rfl, ?_⟩) ?_ ?_; rotate_left; exact zy; rotate_left; exact zput
   refine pure_ (i := 10) (N := some 33) (v := ?_) (a' := ?_) #[T,T,F,T,F,T,F,T,F,T,T,F,F,F,F,F,F,F,F,F,F,F,F,F,F] rfl rfl (any_of HT_.out (by kernel_rfl)) (fun _ _ _ h => h) (Or.inl ⟨by rfl, ?_⟩) ?_ ?_; rotate_left; exact zy; rotate_left; exact zput
   refine pure_ (i := 11) (N := some 34) (v := ?_) (a' := ?_) #[T,T,F,T,F,T,F,T,F,T,T,T,F,F,F,F,F,F,F,F,F,F,F,F,F] rfl rfl (any_of HT_.out (by kernel_rfl)) (fun _ _ _ h => h) (Or.inl ⟨by rfl, ?_⟩) ?_ ?_; rotate_left; exact zy; rotate_left; exact zput
   refine pure_ (i := 12) (N := some 35) (v := ?_) (a' := ?_) #[T,T,F,T,F,T,F,T,F,T,T,T,T,F,F,F,F,F,F,F,F,F,F,F,F] rfl rfl (any_of HT_.out (by kernel_rfl)) (fun _ _ _ h => h) (Or.inl ⟨by rfl, ?_⟩) ?_ ?_; rotate_left; exact zy; rotate_left; exact zput
   refine pure_ (i := 14) (N := some 37) (v := ?_) (a' := ?_) #[T,T,F,T,F,T,F,T,F,T,T,T,T,F,T,F,F,F,F,F,F,F,F,F,F] rfl rfl (any_of HT_.out (by kernel_rfl)) (fun _ _ _ h => h) (Or.inl ⟨by rfl, ?_⟩) ?_ ?_; rotate_left; exact zy; rotate_left; exact zput
   refine pure_ (i := 15) (N := some 38) (v := ?_) (a' := ?_) #[T,T,F,T,F,T,F,T,F,T,T,T,T,F,T,T,F,F,F,F,F,F,F,F,F] rfl rfl (any_of HT_.out (by kernel_rfl)) (fun _ _ _ h => h) (Or.inl ⟨by rfl, ?_⟩) ?_ ?_; rotate_left; exact zy; rotate_left; exact zput
   refine pure_ (i := 16) (N := some 39) (v := ?_) (a' := ?_) #[T,T,F,T,F,T,F,T,F,T,T,T,T,F,T,T,T,F,F,F,F,F,F,F,F] rfl rfl (any_of HT_.out (by kernel_rfl)) (fun _ _ _ h => h) (Or.inl ⟨by rfl, ?_⟩) ?_ ?_; rotate_left; exact zy; rotate_left; exact zput
   refine pure_ (i := 17) (N := some 40) (v := ?_) (a' := ?_) #[T,T,F,T,F,T,F,T,F,T,T,T,T,F,T,T,T,T,F,F,F,F,F,F,F] rfl rfl (any_of HT_.out (by kernel_rfl)) (fun _ _ _ h => h) (Or.inl ⟨by rfl, ?_⟩) ?_ ?_; rotate_left; exact zy; rotate_left; exact zput
   refine pure_ (i := 18) (N := some 41) (v := ?_) (a' := ?_) #[T,T,F,T,F,T,F,T,F,T,T,T,T,F,T,T,T,T,T,F,F,F,F,F,F] rfl rfl (any_of HT_.out (by kernel_rfl)) (fun _ _ _ h => h) (Or.inl ⟨by rfl, ?_⟩) ?_ ?_; rotate_left; exact zy; rotate_left; exact zput
   refine take_ (i := 2) (N := some 25) (v := ?_) (a' := ?_) #[T,T,T,T,F,T,F,T,F,T,T,T,T,F,T,T,T,T,T,F,F,F,F,F,F] rfl rfl (take_ofW HT_.out HW_.out (by kernel_rfl)) (fun _ _ _ h => h) (Or.inl ⟨by rfl, ?_⟩) hHeld ?_ ?_; rotate_left; exact zt11; rotate_left; exact zput
   refine take_ (i := 4) (N := some 27) (v := ?_) (a' := ?_) #[T,T,T,T,T,T,F,T,F,T,T,T,T,F,T,T,T,T,T,F,F,F,F,F,F] rfl rfl (take_ofW HT_.out HW_.out (by kernel_rfl)) (fun _ _ _ h => h) (Or.inl ⟨by rfl, ?_⟩) hHeld ?_ ?_; rotate_left; exact zt11; rotate_left; exact zput
   refine take_ (i := 6) (N := some 29) (v := ?_) (a' := ?_) #[T,T,T,T,T,T,T,T,F,T,T,T,T,F,T,T,T,T,T,F,F,F,F,F,F] rfl rfl (take_ofW HT_.out HW_.out (by kernel_rfl)) (fun _ _ _ h => h) (Or.inl ⟨by rfl, ?_⟩) hHeld ?_ ?_; rotate_left; exact zt11; rotate_left; exact zput
   refine take_ (i := 8) (N := some 31) (v := ?_) (a' := ?_) #[T,T,T,T,T,T,T,T,T,T,T,T,T,F,T,T,T,T,T,F,F,F,F,F,F] rfl rfl (take_ofW HT_.out HW_.out (by kernel_rfl)) (fun _ _ _ h => h) (Or.inl ⟨by rfl, ?_⟩) hHeld ?_ ?_; rotate_left; exact zt11; rotate_left; exact zput
   refine take_ (i := 13) (N := some 36) (v := ?_) (a' := ?_) #[T,T,T,T,T,T,T,T,T,T,T,T,T,T,T,T,T,T,T,F,F,F,F,F,F] rfl rfl (take_ofW HT_.out HW_.out (by kernel_rfl)) (fun _ _ _ h => h) (Or.inl ⟨by rfl, ?_⟩) hHeld ?_ ?_; rotate_left; exact zt11; rotate_left; exact zput
   refine take_ (i := 19) (N := some 42) (v := ?_) (a' := ?_) #[T,T,T,T,T,T,T,T,T,T,T,T,T,T,T,T,T,T,T,T,F,F,F,F,F] rfl rfl (take_ofW HT_.out HW_.out (by kernel_rfl)) (fun _ _ _ h => h) (Or.inl ⟨by rfl, ?_⟩) hHeld ?_ ?_; rotate_left; exact zt11; rotate_left; exact zput
   refine pure_ (i := 20) (N := some 43) (v := ?_) (a' := ?_) #[T,T,T,T,T,T,T,T,T,T,T,T,T,T,T,T,T,T,T,T,T,F,F,F,F] rfl rfl (any_of HT_.out (by kernel_rfl)) (fun _ _ _ h => h) (Or.inl ⟨by rfl, ?_⟩) ?_ ?_; rotate_left; exact zy; rotate_left; exact zput
   refine pure_ (i := 21) (N := some 44) (v := ?_) (a' := ?_) #[T,T,T,T,T,T,T,T,T,T,T,T,T,T,T,T,T,T,T,T,T,T,F,F,F] rfl rfl (any_of HT_.out (by kernel_rfl)) (fun _ _ _ h => h) (Or.inl ⟨by rfl, ?_⟩) ?_ ?_; rotate_left; exact zy; rotate_left; exact zput
   refine last_ (i := 22) (N := some 45) #[T,T,T,T,T,T,T,T,T,T,T,T,T,T,T,T,T,T,T,T,T,T,T,F,F] rfl rfl (one_of HT_.out (by kernel_rfl)) (by decide) (fun K hK => ?_)
   refine value_ (w1 := ?_) (v := ?_) (by rfl) rfl ?_ ?_
   rotate_left 2
   ·go_simp
    constructor
    ·rfl
    ·rfl
   refine hK.out _ _ ?_
   clear hK K
   refine norm_ (a' := ?_) ?_ ?_
   rotate_left
   ·show Act.put _ (some 45) _ = _
    simp only [Act.put, List.setIfInBounds_toArray, List.set_cons_zero, List.set_cons_succ, i64_w, i32_w]
    rfl
   refine last_ (i := 23) (N := some 46) #[T,T,T,T,T,T,T,T,T,T,T,T,T,T,T,T,T,T,T,T,T,T,T,T,F] rfl rfl (one_of HT_.out (by kernel_rfl)) (by decide) (fun K hK => ?_)
   refine Kd.R_append_step k112 (w0 := w) w.heap.size (by rfl) (.tmp 23) (.tmp 45) 96 112 (.agg #[(.int .i64 0), (.int .i64 0), (.int .i64 0), (.int .i64 0), (.int .i64 0), (.int .i64 0)]) 48 rfl Try.underlying96 info112 rfl (by decide) (by omega) u5 x5_1 (⟨(rd_T132 l0_2 x18_1).f0, (rd_T132 l0_2 x18_1).f1, (rd_T132 l0_2 x18_1).f2, (rd_T132 l0_2 x18_1).f3, (rd_T110 t294 x18_1).f0, wrap64 (((rd_T110 t294 (ji12)).f1) - 1)⟩ : S112) [.int .i64 ((rd_T132 l0_2 x18_1).f0), .int .i64 ((rd_T132 l0_2 x18_1).f1), .int .i64 ((rd_T132 l0_2 x18_1).f2), .int .i64 ((rd_T132 l0_2 x18_1).f3), .int .i64 ((rd_T110 t294 x18_1).f0), .int .i64 (wrap64 (((rd_T110 t294 (ji12)).f1) - 1))] (fun _ => True) (fun _ => False) rfl rfl ?aP (fun _ hk => hk.elim) ?aF ?aO ?aB ?aS ?aL ?_
   (case aP => exact k112_mkM _ _ _ (⟨(rd_T132 l0_2 x18_1).f0, (rd_T132 l0_2 x18_1).f1, (rd_T132 l0_2 x18_1).f2, (rd_T132 l0_2 x18_1).f3, (rd_T110 t294 x18_1).f0, wrap64 (((rd_T110 t294 (ji12)).f1) - 1)⟩ : S112))
   (case aB => exact (zs2 HB GE293 GE299))
   (case aF => exact (fun _ _ => trivial))
   (case aO => exact (zr HO_5))
   (case aS => exact (below_size (zs2 HB GE293 GE299)))
   (case aL => have := LMc15.out; omega)
   intro v303 w22 ho hb hg hat
   rw [← Ny302.out] at ho
   have n0_ := zA (Kd.R_over' (zr HO_3) (Kd.R_typed (zr HO_5)) (by decide) hg)
   have n1_ := zA (blk_grown (g := gb293) (o := .cells #[.int .i64 a0_0, .int .i64 a0_1, .slice (some ad298) l0_2.length c0_2, .int .i64 a0_3, .int .i64 a0_4] 68 (0, 0)) (zh BK293) hg (Kd.R_ne HO_5.out BK293.out (by decide)))
   have n2_ := zA (blk_grown (g := gb299) (o := .cells #[.int .i64 ((rd_T132 l0_2 x18_1).f0), .int .i64 ((rd_T132 l0_2 x18_1).f1), .int .i64 ((rd_T132 l0_2 x18_1).f2), .int .i64 ((rd_T132 l0_2 x18_1).f3), .int .i64 ((rd_T132 l0_2 x18_1).f4), .int .i64 ((rd_T132 l0_2 x18_1).f5), .bool ((rd_T132 l0_2 x18_1).f6)] 132 (0, 0)) (zh BK299) hg (Kd.R_ne HO_5.out BK299.out (by decide)))
   have n3_ := zA (hb)
   have n4_ := zA (ho)
   clear HO_3
   clear BK293
   clear BK299
   clear HB
   clear HO_5
   have HO_3 := n0_
   have BK293 := n1_
   have BK299 := n2_
   have HB := n3_
   have HO304 := n4_
   clear n0_ n1_ n2_ n3_ n4_
   clear ho hb hg hat
   refine hK.out _ _ ?_
   clear hK K
   refine norm_ (a' := ?_) ?_ ?_
   rotate_left
   ·show Act.put _ (some 46) _ = _
    simp only [Act.put, List.setIfInBounds_toArray, List.set_cons_zero, List.set_cons_succ, i64_w, i32_w]
    rfl
   refine pure_ (i := 24) (N := some 5) (v := ?_) (a' := ?_) #[T,T,T,T,T,T,T,T,T,T,T,T,T,T,T,T,T,T,T,T,T,T,T,T,T] rfl rfl (any_of HT_.out (by kernel_rfl)) (fun _ _ _ h => h) (Or.inl ⟨by rfl, ?_⟩) ?_ ?_; rotate_left; exact zy; rotate_left; exact zput
   refine done_ (done_of HT_.out (by kernel_rfl)) ?_
   try go_wp2
   go_roundg k1
   case measure => have := HK1.out; omega
   case rel => exact ⟨(y302), (ji12), (by first | rfl | (simp; done) | (simp only [← hji12] <;> (first | rfl | simp)) | (simp [*]; done)), H', ⟨by have := HK1.out; omega⟩, ⟨zr HO_3⟩, ⟨zr HO304⟩, ⟨zh BK293⟩, ⟨zs2 HB GE293 GE299⟩⟩
def laws_eqFlyBox.f (a0_0 : Int) (a0_1 : Int) (a0_2 : Int) (a0_3 : Int) (a0_4 : Int) (a0_5 : Int) (a1_0 : Int) (a1_1 : Int) (a1_2 : Int) (a1_3 : Int) (a1_4 : Int) (a1_5 : Int) : Option (Bool) := if a0_0 = a1_0 then (if a0_1 = a1_1 then (if a0_2 = a1_2 then (if a0_3 = a1_3 then (if a0_4 = a1_4 then (if a0_5 = a1_5 then (some true) else (some false)) else (some false)) else (some false)) else (some false)) else (some false)) else (some false)
set_option maxHeartbeats 8000000 in
set_option maxRecDepth 100000 in
theorem laws_eqFlyBox.calls (a0_0 : Int) (a0_1 : Int) (a0_2 : Int) (a0_3 : Int) (a0_4 : Int) (a0_5 : Int) (a1_0 : Int) (a1_1 : Int) (a1_2 : Int) (a1_3 : Int) (a1_4 : Int) (a1_5 : Int) (r : Bool) (w : World) (h : laws_eqFlyBox.f a0_0 a0_1 a0_2 a0_3 a0_4 a0_5 a1_0 a1_1 a1_2 a1_3 a1_4 a1_5 = some r) :
 Calls Try.prog 126 #[.agg #[.int .i64 a0_0, .int .i64 a0_1, .int .i64 a0_2, .int .i64 a0_3, .int .i64 a0_4, .int .i64 a0_5], .agg #[.int .i64 a1_0, .int .i64 a1_1, .int .i64 a1_2, .int .i64 a1_3, .int .i64 a1_4, .int .i64 a1_5]] w fun e w' => e = .returned (.bool r) ∧ Below w.heap.size w w' := by
 have hu112 := Try.underlying112
 have HB := zA (Below.refl w.heap.size w)
 have H : (if a0_0 = a1_0 then (if a0_1 = a1_1 then (if a0_2 = a1_2 then (if a0_3 = a1_3 then (if a0_4 = a1_4 then (if a0_5 = a1_5 then (some true) else (some false)) else (some false)) else (some false)) else (some false)) else (some false)) else (some false)) = some r := h
 clear h
 by_cases c3 : a0_0 = a1_0
 rotate_left
 ·rw [if_neg c3] at H
  have c3b0 : (a0_0 == a1_0) = false := beq_eq_false_iff_ne.mpr c3
  have c3b1 : (a0_0 != a1_0) = true := bne_iff_ne.mpr c3
  obtain rfl := Option.some.inj H
  go_enter Try.func126, Try.ntmps126
  go_wp2_with (first | ((with_reducible refine gate_dst (N := 2) rfl ?_); refine box_event (by rfl) (N := 2) (by rfl) (cs := #[.int .i64 a0_0, .int .i64 a0_1, .int .i64 a0_2, .int .i64 a0_3, .int .i64 a0_4, .int .i64 a0_5]) (t := 112) zg ?_; intro gb305 hg w39 hbox hb; have n0_ := zA (below_step (zs0 HB) hb); have n1_ := zA (hbox); have n2_ := zA ((by rw [hg]; exact (below_size (zs0 HB)) : w.heap.size ≤ gb305)); have n3_ := zA ((by rw [hg]; exact (below_size (zs0 HB)) : w.heap.size ≤ gb305)); clear HB; have HB := n0_; have BK305 := n1_; have GW305 := n2_; have GE305 := n3_; clear n0_ n1_ n2_ n3_; clear hb hbox hg) | ((with_reducible refine gate_dst (N := 3) rfl ?_); refine box_event (by rfl) (N := 3) (by rfl) (cs := #[.int .i64 a1_0, .int .i64 a1_1, .int .i64 a1_2, .int .i64 a1_3, .int .i64 a1_4, .int .i64 a1_5]) (t := 112) zg ?_; intro gb306 hg w40 hbox hb; have n0_ := zb BK305 hb; have n1_ := zA (below_step (zs1 HB GE305) hb); have n2_ := zA (hbox); have n3_ := zA ((by rw [hg]; exact (below_size (zs1 HB GE305)) : w.heap.size ≤ gb306)); have n4_ := zA ((by rw [hg]; exact (below_size (zs1 HB GE305)) : w.heap.size ≤ gb306)); have n5_ := zA ((by rw [hg]; exact Nat.ne_of_lt (blk_lt (g := gb305) (o := .cells #[.int .i64 a0_0, .int .i64 a0_1, .int .i64 a0_2, .int .i64 a0_3, .int .i64 a0_4, .int .i64 a0_5] 112 (0, 0)) (zh BK305)) : gb305 ≠ gb306)); have n6_ := zA ((by rw [hg]; exact Nat.ne_of_gt (blk_lt (g := gb305) (o := .cells #[.int .i64 a0_0, .int .i64 a0_1, .int .i64 a0_2, .int .i64 a0_3, .int .i64 a0_4, .int .i64 a0_5] 112 (0, 0)) (zh BK305)) : gb306 ≠ gb305)); clear BK305; clear HB; have BK305 := n0_; have HB := n1_; have BK306 := n2_; have GW306 := n3_; have GE306 := n4_; have NB305_306 := n5_; have NB306_305 := n6_; clear n0_ n1_ n2_ n3_ n4_ n5_ n6_; clear hb hbox hg; have hnb41 := NB305_306.out; have hnc41 := NB306_305.out; obtain ⟨hcz42_0, hcz42_1, hcz42_2, hcz42_3, hcz42_4, hcz42_5⟩ := zd6 BK305; obtain ⟨hfz42_0, hfz42_1, hfz42_2, hfz42_3, hfz42_4, hfz42_5⟩ := zn6 BK305; obtain ⟨hcz43_0, hcz43_1, hcz43_2, hcz43_3, hcz43_4, hcz43_5⟩ := zd6 BK306; obtain ⟨hfz43_0, hfz43_1, hfz43_2, hfz43_3, hfz43_4, hfz43_5⟩ := zn6 BK306))
  go_ret
  exact ⟨ze, zs2 HB GE305 GE306⟩
 rw [if_pos c3] at H
 have c3b0 : (a0_0 == a1_0) = true := beq_iff_eq.mpr c3
 have c3b1 : (a0_0 != a1_0) = false := bne_eq_false_iff_eq.mpr c3
 clear c3
 by_cases c4 : a0_1 = a1_1
 rotate_left
 ·rw [if_neg c4] at H
  have c4b0 : (a0_1 == a1_1) = false := beq_eq_false_iff_ne.mpr c4
  have c4b1 : (a0_1 != a1_1) = true := bne_iff_ne.mpr c4
  obtain rfl := Option.some.inj H
  go_enter Try.func126, Try.ntmps126
  go_wp2_with (first | ((with_reducible refine gate_dst (N := 2) rfl ?_); refine box_event (by rfl) (N := 2) (by rfl) (cs := #[.int .i64 a0_0, .int .i64 a0_1, .int .i64 a0_2, .int .i64 a0_3, .int .i64 a0_4, .int .i64 a0_5]) (t := 112) zg ?_; intro gb305 hg w34 hbox hb; have n0_ := zA (below_step (zs0 HB) hb); have n1_ := zA (hbox); have n2_ := zA ((by rw [hg]; exact (below_size (zs0 HB)) : w.heap.size ≤ gb305)); have n3_ := zA ((by rw [hg]; exact (below_size (zs0 HB)) : w.heap.size ≤ gb305)); clear HB; have HB := n0_; have BK305 := n1_; have GW305 := n2_; have GE305 := n3_; clear n0_ n1_ n2_ n3_; clear hb hbox hg) | ((with_reducible refine gate_dst (N := 3) rfl ?_); refine box_event (by rfl) (N := 3) (by rfl) (cs := #[.int .i64 a1_0, .int .i64 a1_1, .int .i64 a1_2, .int .i64 a1_3, .int .i64 a1_4, .int .i64 a1_5]) (t := 112) zg ?_; intro gb306 hg w35 hbox hb; have n0_ := zb BK305 hb; have n1_ := zA (below_step (zs1 HB GE305) hb); have n2_ := zA (hbox); have n3_ := zA ((by rw [hg]; exact (below_size (zs1 HB GE305)) : w.heap.size ≤ gb306)); have n4_ := zA ((by rw [hg]; exact (below_size (zs1 HB GE305)) : w.heap.size ≤ gb306)); have n5_ := zA ((by rw [hg]; exact Nat.ne_of_lt (blk_lt (g := gb305) (o := .cells #[.int .i64 a0_0, .int .i64 a0_1, .int .i64 a0_2, .int .i64 a0_3, .int .i64 a0_4, .int .i64 a0_5] 112 (0, 0)) (zh BK305)) : gb305 ≠ gb306)); have n6_ := zA ((by rw [hg]; exact Nat.ne_of_gt (blk_lt (g := gb305) (o := .cells #[.int .i64 a0_0, .int .i64 a0_1, .int .i64 a0_2, .int .i64 a0_3, .int .i64 a0_4, .int .i64 a0_5] 112 (0, 0)) (zh BK305)) : gb306 ≠ gb305)); clear BK305; clear HB; have BK305 := n0_; have HB := n1_; have BK306 := n2_; have GW306 := n3_; have GE306 := n4_; have NB305_306 := n5_; have NB306_305 := n6_; clear n0_ n1_ n2_ n3_ n4_ n5_ n6_; clear hb hbox hg; have hnb36 := NB305_306.out; have hnc36 := NB306_305.out; obtain ⟨hcz37_0, hcz37_1, hcz37_2, hcz37_3, hcz37_4, hcz37_5⟩ := zd6 BK305; obtain ⟨hfz37_0, hfz37_1, hfz37_2, hfz37_3, hfz37_4, hfz37_5⟩ := zn6 BK305; obtain ⟨hcz38_0, hcz38_1, hcz38_2, hcz38_3, hcz38_4, hcz38_5⟩ := zd6 BK306; obtain ⟨hfz38_0, hfz38_1, hfz38_2, hfz38_3, hfz38_4, hfz38_5⟩ := zn6 BK306))
  go_ret
  exact ⟨ze, zs2 HB GE305 GE306⟩
 rw [if_pos c4] at H
 have c4b0 : (a0_1 == a1_1) = true := beq_iff_eq.mpr c4
 have c4b1 : (a0_1 != a1_1) = false := bne_eq_false_iff_eq.mpr c4
 clear c4
 by_cases c5 : a0_2 = a1_2
 rotate_left
 ·rw [if_neg c5] at H
  have c5b0 : (a0_2 == a1_2) = false := beq_eq_false_iff_ne.mpr c5
  have c5b1 : (a0_2 != a1_2) = true := bne_iff_ne.mpr c5
  obtain rfl := Option.some.inj H
  go_enter Try.func126, Try.ntmps126
  go_wp2_with (first | ((with_reducible refine gate_dst (N := 2) rfl ?_); refine box_event (by rfl) (N := 2) (by rfl) (cs := #[.int .i64 a0_0, .int .i64 a0_1, .int .i64 a0_2, .int .i64 a0_3, .int .i64 a0_4, .int .i64 a0_5]) (t := 112) zg ?_; intro gb305 hg w29 hbox hb; have n0_ := zA (below_step (zs0 HB) hb); have n1_ := zA (hbox); have n2_ := zA ((by rw [hg]; exact (below_size (zs0 HB)) : w.heap.size ≤ gb305)); have n3_ := zA ((by rw [hg]; exact (below_size (zs0 HB)) : w.heap.size ≤ gb305)); clear HB; have HB := n0_; have BK305 := n1_; have GW305 := n2_; have GE305 := n3_; clear n0_ n1_ n2_ n3_; clear hb hbox hg) | ((with_reducible refine gate_dst (N := 3) rfl ?_); refine box_event (by rfl) (N := 3) (by rfl) (cs := #[.int .i64 a1_0, .int .i64 a1_1, .int .i64 a1_2, .int .i64 a1_3, .int .i64 a1_4, .int .i64 a1_5]) (t := 112) zg ?_; intro gb306 hg w30 hbox hb; have n0_ := zb BK305 hb; have n1_ := zA (below_step (zs1 HB GE305) hb); have n2_ := zA (hbox); have n3_ := zA ((by rw [hg]; exact (below_size (zs1 HB GE305)) : w.heap.size ≤ gb306)); have n4_ := zA ((by rw [hg]; exact (below_size (zs1 HB GE305)) : w.heap.size ≤ gb306)); have n5_ := zA ((by rw [hg]; exact Nat.ne_of_lt (blk_lt (g := gb305) (o := .cells #[.int .i64 a0_0, .int .i64 a0_1, .int .i64 a0_2, .int .i64 a0_3, .int .i64 a0_4, .int .i64 a0_5] 112 (0, 0)) (zh BK305)) : gb305 ≠ gb306)); have n6_ := zA ((by rw [hg]; exact Nat.ne_of_gt (blk_lt (g := gb305) (o := .cells #[.int .i64 a0_0, .int .i64 a0_1, .int .i64 a0_2, .int .i64 a0_3, .int .i64 a0_4, .int .i64 a0_5] 112 (0, 0)) (zh BK305)) : gb306 ≠ gb305)); clear BK305; clear HB; have BK305 := n0_; have HB := n1_; have BK306 := n2_; have GW306 := n3_; have GE306 := n4_; have NB305_306 := n5_; have NB306_305 := n6_; clear n0_ n1_ n2_ n3_ n4_ n5_ n6_; clear hb hbox hg; have hnb31 := NB305_306.out; have hnc31 := NB306_305.out; obtain ⟨hcz32_0, hcz32_1, hcz32_2, hcz32_3, hcz32_4, hcz32_5⟩ := zd6 BK305; obtain ⟨hfz32_0, hfz32_1, hfz32_2, hfz32_3, hfz32_4, hfz32_5⟩ := zn6 BK305; obtain ⟨hcz33_0, hcz33_1, hcz33_2, hcz33_3, hcz33_4, hcz33_5⟩ := zd6 BK306; obtain ⟨hfz33_0, hfz33_1, hfz33_2, hfz33_3, hfz33_4, hfz33_5⟩ := zn6 BK306))
  go_ret
  exact ⟨ze, zs2 HB GE305 GE306⟩
 rw [if_pos c5] at H
 have c5b0 : (a0_2 == a1_2) = true := beq_iff_eq.mpr c5
 have c5b1 : (a0_2 != a1_2) = false := bne_eq_false_iff_eq.mpr c5
 clear c5
 by_cases c6 : a0_3 = a1_3
 rotate_left
 ·rw [if_neg c6] at H
  have c6b0 : (a0_3 == a1_3) = false := beq_eq_false_iff_ne.mpr c6
  have c6b1 : (a0_3 != a1_3) = true := bne_iff_ne.mpr c6
  obtain rfl := Option.some.inj H
  go_enter Try.func126, Try.ntmps126
  go_wp2_with (first | ((with_reducible refine gate_dst (N := 2) rfl ?_); refine box_event (by rfl) (N := 2) (by rfl) (cs := #[.int .i64 a0_0, .int .i64 a0_1, .int .i64 a0_2, .int .i64 a0_3, .int .i64 a0_4, .int .i64 a0_5]) (t := 112) zg ?_; intro gb305 hg w24 hbox hb; have n0_ := zA (below_step (zs0 HB) hb); have n1_ := zA (hbox); have n2_ := zA ((by rw [hg]; exact (below_size (zs0 HB)) : w.heap.size ≤ gb305)); have n3_ := zA ((by rw [hg]; exact (below_size (zs0 HB)) : w.heap.size ≤ gb305)); clear HB; have HB := n0_; have BK305 := n1_; have GW305 := n2_; have GE305 := n3_; clear n0_ n1_ n2_ n3_; clear hb hbox hg) | ((with_reducible refine gate_dst (N := 3) rfl ?_); refine box_event (by rfl) (N := 3) (by rfl) (cs := #[.int .i64 a1_0, .int .i64 a1_1, .int .i64 a1_2, .int .i64 a1_3, .int .i64 a1_4, .int .i64 a1_5]) (t := 112) zg ?_; intro gb306 hg w25 hbox hb; have n0_ := zb BK305 hb; have n1_ := zA (below_step (zs1 HB GE305) hb); have n2_ := zA (hbox); have n3_ := zA ((by rw [hg]; exact (below_size (zs1 HB GE305)) : w.heap.size ≤ gb306)); have n4_ := zA ((by rw [hg]; exact (below_size (zs1 HB GE305)) : w.heap.size ≤ gb306)); have n5_ := zA ((by rw [hg]; exact Nat.ne_of_lt (blk_lt (g := gb305) (o := .cells #[.int .i64 a0_0, .int .i64 a0_1, .int .i64 a0_2, .int .i64 a0_3, .int .i64 a0_4, .int .i64 a0_5] 112 (0, 0)) (zh BK305)) : gb305 ≠ gb306)); have n6_ := zA ((by rw [hg]; exact Nat.ne_of_gt (blk_lt (g := gb305) (o := .cells #[.int .i64 a0_0, .int .i64 a0_1, .int .i64 a0_2, .int .i64 a0_3, .int .i64 a0_4, .int .i64 a0_5] 112 (0, 0)) (zh BK305)) : gb306 ≠ gb305)); clear BK305; clear HB; have BK305 := n0_; have HB := n1_; have BK306 := n2_; have GW306 := n3_; have GE306 := n4_; have NB305_306 := n5_; have NB306_305 := n6_; clear n0_ n1_ n2_ n3_ n4_ n5_ n6_; clear hb hbox hg; have hnb26 := NB305_306.out; have hnc26 := NB306_305.out; obtain ⟨hcz27_0, hcz27_1, hcz27_2, hcz27_3, hcz27_4, hcz27_5⟩ := zd6 BK305; obtain ⟨hfz27_0, hfz27_1, hfz27_2, hfz27_3, hfz27_4, hfz27_5⟩ := zn6 BK305; obtain ⟨hcz28_0, hcz28_1, hcz28_2, hcz28_3, hcz28_4, hcz28_5⟩ := zd6 BK306; obtain ⟨hfz28_0, hfz28_1, hfz28_2, hfz28_3, hfz28_4, hfz28_5⟩ := zn6 BK306))
  go_ret
  exact ⟨ze, zs2 HB GE305 GE306⟩
 rw [if_pos c6] at H
 have c6b0 : (a0_3 == a1_3) = true := beq_iff_eq.mpr c6
 have c6b1 : (a0_3 != a1_3) = false := bne_eq_false_iff_eq.mpr c6
 clear c6
 by_cases c7 : a0_4 = a1_4
 rotate_left
 ·rw [if_neg c7] at H
  have c7b0 : (a0_4 == a1_4) = false := beq_eq_false_iff_ne.mpr c7
  have c7b1 : (a0_4 != a1_4) = true := bne_iff_ne.mpr c7
  obtain rfl := Option.some.inj H
  go_enter Try.func126, Try.ntmps126
  go_wp2_with (first | ((with_reducible refine gate_dst (N := 2) rfl ?_); refine box_event (by rfl) (N := 2) (by rfl) (cs := #[.int .i64 a0_0, .int .i64 a0_1, .int .i64 a0_2, .int .i64 a0_3, .int .i64 a0_4, .int .i64 a0_5]) (t := 112) zg ?_; intro gb305 hg w19 hbox hb; have n0_ := zA (below_step (zs0 HB) hb); have n1_ := zA (hbox); have n2_ := zA ((by rw [hg]; exact (below_size (zs0 HB)) : w.heap.size ≤ gb305)); have n3_ := zA ((by rw [hg]; exact (below_size (zs0 HB)) : w.heap.size ≤ gb305)); clear HB; have HB := n0_; have BK305 := n1_; have GW305 := n2_; have GE305 := n3_; clear n0_ n1_ n2_ n3_; clear hb hbox hg) | ((with_reducible refine gate_dst (N := 3) rfl ?_); refine box_event (by rfl) (N := 3) (by rfl) (cs := #[.int .i64 a1_0, .int .i64 a1_1, .int .i64 a1_2, .int .i64 a1_3, .int .i64 a1_4, .int .i64 a1_5]) (t := 112) zg ?_; intro gb306 hg w20 hbox hb; have n0_ := zb BK305 hb; have n1_ := zA (below_step (zs1 HB GE305) hb); have n2_ := zA (hbox); have n3_ := zA ((by rw [hg]; exact (below_size (zs1 HB GE305)) : w.heap.size ≤ gb306)); have n4_ := zA ((by rw [hg]; exact (below_size (zs1 HB GE305)) : w.heap.size ≤ gb306)); have n5_ := zA ((by rw [hg]; exact Nat.ne_of_lt (blk_lt (g := gb305) (o := .cells #[.int .i64 a0_0, .int .i64 a0_1, .int .i64 a0_2, .int .i64 a0_3, .int .i64 a0_4, .int .i64 a0_5] 112 (0, 0)) (zh BK305)) : gb305 ≠ gb306)); have n6_ := zA ((by rw [hg]; exact Nat.ne_of_gt (blk_lt (g := gb305) (o := .cells #[.int .i64 a0_0, .int .i64 a0_1, .int .i64 a0_2, .int .i64 a0_3, .int .i64 a0_4, .int .i64 a0_5] 112 (0, 0)) (zh BK305)) : gb306 ≠ gb305)); clear BK305; clear HB; have BK305 := n0_; have HB := n1_; have BK306 := n2_; have GW306 := n3_; have GE306 := n4_; have NB305_306 := n5_; have NB306_305 := n6_; clear n0_ n1_ n2_ n3_ n4_ n5_ n6_; clear hb hbox hg; have hnb21 := NB305_306.out; have hnc21 := NB306_305.out; obtain ⟨hcz22_0, hcz22_1, hcz22_2, hcz22_3, hcz22_4, hcz22_5⟩ := zd6 BK305; obtain ⟨hfz22_0, hfz22_1, hfz22_2, hfz22_3, hfz22_4, hfz22_5⟩ := zn6 BK305; obtain ⟨hcz23_0, hcz23_1, hcz23_2, hcz23_3, hcz23_4, hcz23_5⟩ := zd6 BK306; obtain ⟨hfz23_0, hfz23_1, hfz23_2, hfz23_3, hfz23_4, hfz23_5⟩ := zn6 BK306))
  go_ret
  exact ⟨ze, zs2 HB GE305 GE306⟩
 rw [if_pos c7] at H
 have c7b0 : (a0_4 == a1_4) = true := beq_iff_eq.mpr c7
 have c7b1 : (a0_4 != a1_4) = false := bne_eq_false_iff_eq.mpr c7
 clear c7
 by_cases c8 : a0_5 = a1_5
 rotate_left
 ·rw [if_neg c8] at H
  have c8b0 : (a0_5 == a1_5) = false := beq_eq_false_iff_ne.mpr c8
  have c8b1 : (a0_5 != a1_5) = true := bne_iff_ne.mpr c8
  obtain rfl := Option.some.inj H
  go_enter Try.func126, Try.ntmps126
  go_wp2_with (first | ((with_reducible refine gate_dst (N := 2) rfl ?_); refine box_event (by rfl) (N := 2) (by rfl) (cs := #[.int .i64 a0_0, .int .i64 a0_1, .int .i64 a0_2, .int .i64 a0_3, .int .i64 a0_4, .int .i64 a0_5]) (t := 112) zg ?_; intro gb305 hg w14 hbox hb; have n0_ := zA (below_step (zs0 HB) hb); have n1_ := zA (hbox); have n2_ := zA ((by rw [hg]; exact (below_size (zs0 HB)) : w.heap.size ≤ gb305)); have n3_ := zA ((by rw [hg]; exact (below_size (zs0 HB)) : w.heap.size ≤ gb305)); clear HB; have HB := n0_; have BK305 := n1_; have GW305 := n2_; have GE305 := n3_; clear n0_ n1_ n2_ n3_; clear hb hbox hg) | ((with_reducible refine gate_dst (N := 3) rfl ?_); refine box_event (by rfl) (N := 3) (by rfl) (cs := #[.int .i64 a1_0, .int .i64 a1_1, .int .i64 a1_2, .int .i64 a1_3, .int .i64 a1_4, .int .i64 a1_5]) (t := 112) zg ?_; intro gb306 hg w15 hbox hb; have n0_ := zb BK305 hb; have n1_ := zA (below_step (zs1 HB GE305) hb); have n2_ := zA (hbox); have n3_ := zA ((by rw [hg]; exact (below_size (zs1 HB GE305)) : w.heap.size ≤ gb306)); have n4_ := zA ((by rw [hg]; exact (below_size (zs1 HB GE305)) : w.heap.size ≤ gb306)); have n5_ := zA ((by rw [hg]; exact Nat.ne_of_lt (blk_lt (g := gb305) (o := .cells #[.int .i64 a0_0, .int .i64 a0_1, .int .i64 a0_2, .int .i64 a0_3, .int .i64 a0_4, .int .i64 a0_5] 112 (0, 0)) (zh BK305)) : gb305 ≠ gb306)); have n6_ := zA ((by rw [hg]; exact Nat.ne_of_gt (blk_lt (g := gb305) (o := .cells #[.int .i64 a0_0, .int .i64 a0_1, .int .i64 a0_2, .int .i64 a0_3, .int .i64 a0_4, .int .i64 a0_5] 112 (0, 0)) (zh BK305)) : gb306 ≠ gb305)); clear BK305; clear HB; have BK305 := n0_; have HB := n1_; have BK306 := n2_; have GW306 := n3_; have GE306 := n4_; have NB305_306 := n5_; have NB306_305 := n6_; clear n0_ n1_ n2_ n3_ n4_ n5_ n6_; clear hb hbox hg; have hnb16 := NB305_306.out; have hnc16 := NB306_305.out; obtain ⟨hcz17_0, hcz17_1, hcz17_2, hcz17_3, hcz17_4, hcz17_5⟩ := zd6 BK305; obtain ⟨hfz17_0, hfz17_1, hfz17_2, hfz17_3, hfz17_4, hfz17_5⟩ := zn6 BK305; obtain ⟨hcz18_0, hcz18_1, hcz18_2, hcz18_3, hcz18_4, hcz18_5⟩ := zd6 BK306; obtain ⟨hfz18_0, hfz18_1, hfz18_2, hfz18_3, hfz18_4, hfz18_5⟩ := zn6 BK306))
  go_ret
  exact ⟨ze, zs2 HB GE305 GE306⟩
 rw [if_pos c8] at H
 have c8b0 : (a0_5 == a1_5) = true := beq_iff_eq.mpr c8
 have c8b1 : (a0_5 != a1_5) = false := bne_eq_false_iff_eq.mpr c8
 clear c8
 obtain rfl := Option.some.inj H
 go_enter Try.func126, Try.ntmps126
 go_wp2_with (first | ((with_reducible refine gate_dst (N := 2) rfl ?_); refine box_event (by rfl) (N := 2) (by rfl) (cs := #[.int .i64 a0_0, .int .i64 a0_1, .int .i64 a0_2, .int .i64 a0_3, .int .i64 a0_4, .int .i64 a0_5]) (t := 112) zg ?_; intro gb305 hg w9 hbox hb; have n0_ := zA (below_step (zs0 HB) hb); have n1_ := zA (hbox); have n2_ := zA ((by rw [hg]; exact (below_size (zs0 HB)) : w.heap.size ≤ gb305)); have n3_ := zA ((by rw [hg]; exact (below_size (zs0 HB)) : w.heap.size ≤ gb305)); clear HB; have HB := n0_; have BK305 := n1_; have GW305 := n2_; have GE305 := n3_; clear n0_ n1_ n2_ n3_; clear hb hbox hg) | ((with_reducible refine gate_dst (N := 3) rfl ?_); refine box_event (by rfl) (N := 3) (by rfl) (cs := #[.int .i64 a1_0, .int .i64 a1_1, .int .i64 a1_2, .int .i64 a1_3, .int .i64 a1_4, .int .i64 a1_5]) (t := 112) zg ?_; intro gb306 hg w10 hbox hb; have n0_ := zb BK305 hb; have n1_ := zA (below_step (zs1 HB GE305) hb); have n2_ := zA (hbox); have n3_ := zA ((by rw [hg]; exact (below_size (zs1 HB GE305)) : w.heap.size ≤ gb306)); have n4_ := zA ((by rw [hg]; exact (below_size (zs1 HB GE305)) : w.heap.size ≤ gb306)); have n5_ := zA ((by rw [hg]; exact Nat.ne_of_lt (blk_lt (g := gb305) (o := .cells #[.int .i64 a0_0, .int .i64 a0_1, .int .i64 a0_2, .int .i64 a0_3, .int .i64 a0_4, .int .i64 a0_5] 112 (0, 0)) (zh BK305)) : gb305 ≠ gb306)); have n6_ := zA ((by rw [hg]; exact Nat.ne_of_gt (blk_lt (g := gb305) (o := .cells #[.int .i64 a0_0, .int .i64 a0_1, .int .i64 a0_2, .int .i64 a0_3, .int .i64 a0_4, .int .i64 a0_5] 112 (0, 0)) (zh BK305)) : gb306 ≠ gb305)); clear BK305; clear HB; have BK305 := n0_; have HB := n1_; have BK306 := n2_; have GW306 := n3_; have GE306 := n4_; have NB305_306 := n5_; have NB306_305 := n6_; clear n0_ n1_ n2_ n3_ n4_ n5_ n6_; clear hb hbox hg; have hnb11 := NB305_306.out; have hnc11 := NB306_305.out; obtain ⟨hcz12_0, hcz12_1, hcz12_2, hcz12_3, hcz12_4, hcz12_5⟩ := zd6 BK305; obtain ⟨hfz12_0, hfz12_1, hfz12_2, hfz12_3, hfz12_4, hfz12_5⟩ := zn6 BK305; obtain ⟨hcz13_0, hcz13_1, hcz13_2, hcz13_3, hcz13_4, hcz13_5⟩ := zd6 BK306; obtain ⟨hfz13_0, hfz13_1, hfz13_2, hfz13_3, hfz13_4, hfz13_5⟩ := zn6 BK306))
 go_ret
 exact ⟨ze, zs2 HB GE305 GE306⟩
end Go.Proofs.Ytbmplfpnhjhoiaa.QFnExactFlyTube
