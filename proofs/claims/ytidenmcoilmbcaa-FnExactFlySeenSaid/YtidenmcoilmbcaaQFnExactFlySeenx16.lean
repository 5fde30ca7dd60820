/- The walk of what the law FnExactFlySeen reaches: laid by a program of this session (ownprint.py). -/
import Derived.Test.YtidenmcoilmbcaaQFnExactFlySeenx0
import Derived.Test.YtidenmcoilmbcaaQFnExactFlySeenx14
import Derived.Test.YtidenmcoilmbcaaQFnExactFlySeenx15
namespace Go.Proofs.Ytidenmcoilmbcaa.QFnExactFlySeen
open Go.RowKit Go.Proofs.YtidenmcoilmbcaaW.PrintWords Go.Proofs.YtidenmcoilmbcaaW.PrintLast Go.Proofs.YtidenmcoilmbcaaW.PrintMore Go.Proofs.Ytidenmcoilmbcaa.Z
attribute [local go_sem] max2_int min2_int max_two min_two max_three min_three max_four min_four zdn   -- for this text's walks alone
set_option linter.unusedVariables false
set_option linter.unusedSimpArgs false
def impl_FlySeen.f (k : Nat) (a0_0 : Int) (a0_1 : Int) (l0_2 : List (S88)) (a0_3 : Int) (a0_4 : Int) (a1 : Int) (a2 : Int) : Option (Int × Int × (List (S88)) × Int × Int × Bool) := (impl_FlySpans.f k a0_0 a0_1 l0_2 a0_3 a0_4).bind fun bt363 => (if bt363.2 = true then (if a1 < 0 then (some (0, 0, ([] : List (S88)), 0, 0, false)) else (if a1 ≥ (l0_2.length : Int) then (some (0, 0, ([] : List (S88)), 0, 0, false)) else (if a2 < 0 then (some (0, 0, ([] : List (S88)), 0, 0, false)) else (if a2 > 10000 then (some (0, 0, ([] : List (S88)), 0, 0, false)) else (if 0 ≤ a1 then (if a1 < (bt363.1.length : Int) then ((impl_FlyPath_rest.f k a0_0 a0_1 l0_2 a0_3 a0_4 a1 ((rd_T46 bt363.1 a1).f0) (mn ((rd_T46 bt363.1 a1).f1) a2) a2).bind fun bt369 => (some (bt369.1, bt369.2.1, bt369.2.2.1, bt369.2.2.2.1, bt369.2.2.2.2.1, bt369.2.2.2.2.2))) else (none)) else (none)))))) else (some (0, 0, ([] : List (S88)), 0, 0, false)))
def impl_FlySeen.T4 : Bool × List (List Nat × List Nat) := (true, [([], []), ([], []), ([], []), ([], []), ([2, 3], [2, 3]), ([4], [4]), ([5], [5]), ([], []), ([], []), ([7, 8], [7, 8]), ([9], [9]), ([10], [10]), ([], []), ([11, 12], [11, 12]), ([], []), ([0, 1, 6, 13, 14], [0, 1, 6, 13, 14]), ([15], [15]), ([15], [15]), ([16, 15, 0, 1, 2, 3, 4, 5, 6, 7, 8, 9, 10, 11, 12, 13, 14, 15, 16, 17], [16]), ([17, 18, 0, 1, 2, 3, 4, 5, 6, 7, 8, 9, 10, 11, 12, 13, 14, 15, 16, 17, 18], [17])])
def impl_FlySeen.B4 : List Nat := [0, 0, 0, 0, 12, 28, 60, 0, 0, 384, 896, 1920, 0, 8064, 0, 32767, 65535, 65535, 262143, 524287]
theorem impl_FlySeen.tab4 : rtab .any (opsOf Try.f51 4) = impl_FlySeen.T4 := by kernel_rfl
theorem impl_FlySeen.bits4 : waitsOk impl_FlySeen.T4.2 impl_FlySeen.B4 = true := by kernel_rfl
set_option maxHeartbeats 8000000 in
set_option maxRecDepth 100000 in
theorem impl_FlySeen.calls (k : Nat) (a0_0 : Int) (a0_1 : Int) (A0_2 : Option Addr) (c0_2 : Nat) (l0_2 : List (S88)) (a0_3 : Int) (a0_4 : Int) (a1 : Int) (a2 : Int) (r1 : Int) (r2 : Int) (r3 : List (S88)) (r4 : Int) (r5 : Int) (r6 : Bool) (w : World) (hr0_2 : Kd.C k88 w A0_2 l0_2.length l0_2) (hc0_2 : l0_2.length ≤ c0_2) (h : impl_FlySeen.f k a0_0 a0_1 l0_2 a0_3 a0_4 a1 a2 = some (r1, r2, r3, r4, r5, r6)) :
 Calls Try.prog 51 #[.agg #[.int .i64 a0_0, .int .i64 a0_1, .slice A0_2 l0_2.length c0_2, .int .i64 a0_3, .int .i64 a0_4], .int .i64 a1, .int .i64 a2] w fun e w' => ∃ v2_ : Value, e = .returned (.tuple #[.agg #[.int .i64 r1, .int .i64 r2, v2_, .int .i64 r4, .int .i64 r5], .bool r6]) ∧ Kd.R k88 88 w' w.heap.size (fun _ => True) v2_ r3 ∧ Below w.heap.size w w' := by
 have hu34 := Try.underlying34
 have HR0_2 := zA hr0_2
 have HC0_2 := zA hc0_2
 clear hr0_2 hc0_2
 have HB := zA (Below.refl w.heap.size w)
 have H : ((impl_FlySpans.f k a0_0 a0_1 l0_2 a0_3 a0_4).bind fun bt363 => (if bt363.2 = true then (if a1 < 0 then (some (0, 0, ([] : List (S88)), 0, 0, false)) else (if a1 ≥ (l0_2.length : Int) then (some (0, 0, ([] : List (S88)), 0, 0, false)) else (if a2 < 0 then (some (0, 0, ([] : List (S88)), 0, 0, false)) else (if a2 > 10000 then (some (0, 0, ([] : List (S88)), 0, 0, false)) else (if 0 ≤ a1 then (if a1 < (bt363.1.length : Int) then ((impl_FlyPath_rest.f k a0_0 a0_1 l0_2 a0_3 a0_4 a1 ((rd_T46 bt363.1 a1).f0) (mn ((rd_T46 bt363.1 a1).f1) a2) a2).bind fun bt369 => (some (bt369.1, bt369.2.1, bt369.2.2.1, bt369.2.2.2.1, bt369.2.2.2.2.1, bt369.2.2.2.2.2))) else (none)) else (none)))))) else (some (0, 0, ([] : List (S88)), 0, 0, false)))) = some (r1, r2, r3, r4, r5, r6) := h
 clear h
 replace H := Option.bind_eq_some_iff.mp H
 obtain ⟨⟨t363, t366⟩, A40, H⟩ := H
 replace H : (if t366 = true then (if a1 < 0 then (some (0, 0, ([] : List (S88)), 0, 0, false)) else (if a1 ≥ (l0_2.length : Int) then (some (0, 0, ([] : List (S88)), 0, 0, false)) else (if a2 < 0 then (some (0, 0, ([] : List (S88)), 0, 0, false)) else (if a2 > 10000 then (some (0, 0, ([] : List (S88)), 0, 0, false)) else (if 0 ≤ a1 then (if a1 < (t363.length : Int) then ((impl_FlyPath_rest.f k a0_0 a0_1 l0_2 a0_3 a0_4 a1 ((rd_T46 t363 a1).f0) (mn ((rd_T46 t363 a1).f1) a2) a2).bind fun bt369 => (some (bt369.1, bt369.2.1, bt369.2.2.1, bt369.2.2.2.1, bt369.2.2.2.2.1, bt369.2.2.2.2.2))) else (none)) else (none)))))) else (some (0, 0, ([] : List (S88)), 0, 0, false))) = some (r1, r2, r3, r4, r5, r6) := H
 have A4 := zA A40
 clear A40
 by_cases c5 : t366 = true
 rotate_left
 ·replace c5 := Bool.eq_false_iff.mpr c5
  subst c5
  have H1 : (some (0, 0, ([] : List (S88)), 0, 0, false)) = some (r1, r2, r3, r4, r5, r6) := by rw [if_neg (show ¬ (false = true) by decide)] at H; exact H
  clear H
  have H := H1
  clear H1
  simp only [Option.some.injEq, Prod.mk.injEq] at H
  obtain ⟨rfl, rfl, rfl, rfl, rfl, rfl⟩ := H
  go_enter Try.func51, Try.ntmps51
  go_wp2_with (first | ((with_reducible refine gate_dst (N := 3) rfl ?_); (try (refine gate_guard (by rfl) ?_; dsimp only)); refine zbx 3 #[.int .i64 a0_0, .int .i64 a0_1, .slice A0_2 l0_2.length c0_2, .int .i64 a0_3, .int .i64 a0_4] 34 ?_; intro gb361 hg w56 hbox hb; have BK361 := zA hbox; have GW361 := zgs hg (zs0 HB); have GE361 := zgs hg (zs0 HB); replace HB := zE (zs0 HB) hb; clear hb hbox hg) | ((with_reducible refine gate_dst (N := 6) rfl ?_); (try (refine gate_guard (by rfl) ?_; dsimp only)); refine zbx 6 #[.int .i64 0, .int .i64 0, .slice none 0 0, .int .i64 0, .int .i64 0] 34 ?_; intro gb362 hg w57 hbox hb; have BK362 := zA hbox; have GW362 := zgs hg (zs1 HB GE361); have GE362 := zgs hg (zs1 HB GE361); have NB361_362 := zne hg BK361; have NB362_361 := znf hg BK361; replace BK361 := zb BK361 hb; replace HB := zE (zs1 HB GE361) hb; clear hb hbox hg; have hnb58 := NB361_362.out; have hnc58 := NB362_361.out; obtain ⟨hcz59_0, hcz59_1, hcz59_2, hcz59_3, hcz59_4⟩ := zd5 BK361; obtain ⟨hfz59_0, hfz59_1, hfz59_2, hfz59_3, hfz59_4⟩ := zn5 BK361) | ((with_reducible refine gate_callee (f := 43) rfl ?_); refine zgl Try.func43 #[.agg #[.int .i64 a0_0, .int .i64 a0_1, .slice A0_2 l0_2.length c0_2, .int .i64 a0_3, .int .i64 a0_4]] ?_; (with_reducible refine (impl_FlySpans.calls k a0_0 a0_1 _ _ l0_2 a0_3 a0_4 t363 false _ ?side1 ?side2 A4.out).mono ?_); (case side1 => exact zC HR0_2 HB); (case side2 => exact HC0_2.out); rintro e w60 ⟨v364, rfl, ho0, hb⟩; refine ⟨_, rfl, ?_⟩; have HO365 := zA (Kd.R_lower ho0 (below_size (zs2 HB GE361 GE362))); replace BK361 := zb BK361 hb; replace BK362 := zb BK362 hb; replace HB := zE (zs2 HB GE361 GE362) hb; (try clear hb); (try clear hb2); (try clear hk); (try clear hi); (try clear ho0); obtain ⟨hcz61_0, hcz61_1, hcz61_2, hcz61_3, hcz61_4⟩ := zd5 BK362; obtain ⟨hfz61_0, hfz61_1, hfz61_2, hfz61_3, hfz61_4⟩ := zn5 BK362))
  refine bodyPost_ret (results_ct rfl _ _ gb362 34 #[.int .i64 0, .int .i64 0, .slice none 0 0, .int .i64 0, .int .i64 0] (0, 0) _ rfl ?hz Try.underlying34 rfl (by kernel_rfl)) rfl ?_; (case hz => exact zpb BK362)
  exact ⟨_, ze, by first | exact Kd.R_nil _ _ _ _ _ | exact Kd.N_nil _ _ _ _ _ | exact Kd.V_nil _ _ _ _ _ | exact Kd.Q_nil _ _ _ _ _ | exact Kd.S_nil _ _ _ _ _, zs2 HB GE361 GE362⟩
 subst c5
 have H1 : (if a1 < 0 then (some (0, 0, ([] : List (S88)), 0, 0, false)) else (if a1 ≥ (l0_2.length : Int) then (some (0, 0, ([] : List (S88)), 0, 0, false)) else (if a2 < 0 then (some (0, 0, ([] : List (S88)), 0, 0, false)) else (if a2 > 10000 then (some (0, 0, ([] : List (S88)), 0, 0, false)) else (if 0 ≤ a1 then (if a1 < (t363.length : Int) then ((impl_FlyPath_rest.f k a0_0 a0_1 l0_2 a0_3 a0_4 a1 ((rd_T46 t363 a1).f0) (mn ((rd_T46 t363 a1).f1) a2) a2).bind fun bt369 => (some (bt369.1, bt369.2.1, bt369.2.2.1, bt369.2.2.2.1, bt369.2.2.2.2.1, bt369.2.2.2.2.2))) else (none)) else (none)))))) = some (r1, r2, r3, r4, r5, r6) := by rw [if_pos rfl] at H; exact H
 clear H
 have H := H1
 clear H1
 by_cases c6 : a1 < 0
 ·rw [if_pos c6] at H
  have c6b0 : decide (a1 < 0) = true := decide_eq_true c6
  clear c6
  simp only [Option.some.injEq, Prod.mk.injEq] at H
  obtain ⟨rfl, rfl, rfl, rfl, rfl, rfl⟩ := H
  go_enter Try.func51, Try.ntmps51
  go_wp2_with (first | ((with_reducible refine gate_dst (N := 3) rfl ?_); (try (refine gate_guard (by rfl) ?_; dsimp only)); refine zbx 3 #[.int .i64 a0_0, .int .i64 a0_1, .slice A0_2 l0_2.length c0_2, .int .i64 a0_3, .int .i64 a0_4] 34 ?_; intro gb361 hg w7 hbox hb; have BK361 := zA hbox; have GW361 := zgs hg (zs0 HB); have GE361 := zgs hg (zs0 HB); replace HB := zE (zs0 HB) hb; clear hb hbox hg) | ((with_reducible refine gate_dst (N := 6) rfl ?_); (try (refine gate_guard (by rfl) ?_; dsimp only)); refine zbx 6 #[.int .i64 0, .int .i64 0, .slice none 0 0, .int .i64 0, .int .i64 0] 34 ?_; intro gb362 hg w8 hbox hb; have BK362 := zA hbox; have GW362 := zgs hg (zs1 HB GE361); have GE362 := zgs hg (zs1 HB GE361); have NB361_362 := zne hg BK361; have NB362_361 := znf hg BK361; replace BK361 := zb BK361 hb; replace HB := zE (zs1 HB GE361) hb; clear hb hbox hg; have hnb9 := NB361_362.out; have hnc9 := NB362_361.out; obtain ⟨hcz10_0, hcz10_1, hcz10_2, hcz10_3, hcz10_4⟩ := zd5 BK361; obtain ⟨hfz10_0, hfz10_1, hfz10_2, hfz10_3, hfz10_4⟩ := zn5 BK361) | ((with_reducible refine gate_callee (f := 43) rfl ?_); refine zgl Try.func43 #[.agg #[.int .i64 a0_0, .int .i64 a0_1, .slice A0_2 l0_2.length c0_2, .int .i64 a0_3, .int .i64 a0_4]] ?_; (with_reducible refine (impl_FlySpans.calls k a0_0 a0_1 _ _ l0_2 a0_3 a0_4 t363 true _ ?side1 ?side2 A4.out).mono ?_); (case side1 => exact zC HR0_2 HB); (case side2 => exact HC0_2.out); rintro e w11 ⟨v364, rfl, ho0, hb⟩; refine ⟨_, rfl, ?_⟩; have HO365 := zA (Kd.R_lower ho0 (below_size (zs2 HB GE361 GE362))); replace BK361 := zb BK361 hb; replace BK362 := zb BK362 hb; replace HB := zE (zs2 HB GE361 GE362) hb; (try clear hb); (try clear hb2); (try clear hk); (try clear hi); (try clear ho0); obtain ⟨hcz12_0, hcz12_1, hcz12_2, hcz12_3, hcz12_4⟩ := zd5 BK362; obtain ⟨hfz12_0, hfz12_1, hfz12_2, hfz12_3, hfz12_4⟩ := zn5 BK362))
  refine bodyPost_ret (results_ct rfl _ _ gb362 34 #[.int .i64 0, .int .i64 0, .slice none 0 0, .int .i64 0, .int .i64 0] (0, 0) _ rfl ?hz Try.underlying34 rfl (by kernel_rfl)) rfl ?_; (case hz => exact zpb BK362)
  exact ⟨_, ze, by first | exact Kd.R_nil _ _ _ _ _ | exact Kd.N_nil _ _ _ _ _ | exact Kd.V_nil _ _ _ _ _ | exact Kd.Q_nil _ _ _ _ _ | exact Kd.S_nil _ _ _ _ _, zs2 HB GE361 GE362⟩
 rw [if_neg c6] at H
 have c6b0 : decide (a1 < 0) = false := decide_eq_false c6
 clear c6
 by_cases c13 : a1 ≥ (l0_2.length : Int)
 ·rw [if_pos c13] at H
  have c13b0 : decide ((l0_2.length : Int) ≤ a1) = true := decide_eq_true c13
  clear c13
  simp only [Option.some.injEq, Prod.mk.injEq] at H
  obtain ⟨rfl, rfl, rfl, rfl, rfl, rfl⟩ := H
  go_enter Try.func51, Try.ntmps51
  go_wp2_with (first | ((with_reducible refine gate_dst (N := 3) rfl ?_); (try (refine gate_guard (by rfl) ?_; dsimp only)); refine zbx 3 #[.int .i64 a0_0, .int .i64 a0_1, .slice A0_2 l0_2.length c0_2, .int .i64 a0_3, .int .i64 a0_4] 34 ?_; intro gb361 hg w14 hbox hb; have BK361 := zA hbox; have GW361 := zgs hg (zs0 HB); have GE361 := zgs hg (zs0 HB); replace HB := zE (zs0 HB) hb; clear hb hbox hg) | ((with_reducible refine gate_dst (N := 6) rfl ?_); (try (refine gate_guard (by rfl) ?_; dsimp only)); refine zbx 6 #[.int .i64 0, .int .i64 0, .slice none 0 0, .int .i64 0, .int .i64 0] 34 ?_; intro gb362 hg w15 hbox hb; have BK362 := zA hbox; have GW362 := zgs hg (zs1 HB GE361); have GE362 := zgs hg (zs1 HB GE361); have NB361_362 := zne hg BK361; have NB362_361 := znf hg BK361; replace BK361 := zb BK361 hb; replace HB := zE (zs1 HB GE361) hb; clear hb hbox hg; have hnb16 := NB361_362.out; have hnc16 := NB362_361.out; obtain ⟨hcz17_0, hcz17_1, hcz17_2, hcz17_3, hcz17_4⟩ := zd5 BK361; obtain ⟨hfz17_0, hfz17_1, hfz17_2, hfz17_3, hfz17_4⟩ := zn5 BK361) | ((with_reducible refine gate_callee (f := 43) rfl ?_); refine zgl Try.func43 #[.agg #[.int .i64 a0_0, .int .i64 a0_1, .slice A0_2 l0_2.length c0_2, .int .i64 a0_3, .int .i64 a0_4]] ?_; (with_reducible refine (impl_FlySpans.calls k a0_0 a0_1 _ _ l0_2 a0_3 a0_4 t363 true _ ?side1 ?side2 A4.out).mono ?_); (case side1 => exact zC HR0_2 HB); (case side2 => exact HC0_2.out); rintro e w18 ⟨v364, rfl, ho0, hb⟩; refine ⟨_, rfl, ?_⟩; have HO365 := zA (Kd.R_lower ho0 (below_size (zs2 HB GE361 GE362))); replace BK361 := zb BK361 hb; replace BK362 := zb BK362 hb; replace HB := zE (zs2 HB GE361 GE362) hb; (try clear hb); (try clear hb2); (try clear hk); (try clear hi); (try clear ho0); obtain ⟨hcz19_0, hcz19_1, hcz19_2, hcz19_3, hcz19_4⟩ := zd5 BK361; obtain ⟨hfz19_0, hfz19_1, hfz19_2, hfz19_3, hfz19_4⟩ := zn5 BK361; obtain ⟨hcz20_0, hcz20_1, hcz20_2, hcz20_3, hcz20_4⟩ := zd5 BK362; obtain ⟨hfz20_0, hfz20_1, hfz20_2, hfz20_3, hfz20_4⟩ := zn5 BK362))
  refine bodyPost_ret (results_ct rfl _ _ gb362 34 #[.int .i64 0, .int .i64 0, .slice none 0 0, .int .i64 0, .int .i64 0] (0, 0) _ rfl ?hz Try.underlying34 rfl (by kernel_rfl)) rfl ?_; (case hz => exact zpb BK362)
  exact ⟨_, ze, by first | exact Kd.R_nil _ _ _ _ _ | exact Kd.N_nil _ _ _ _ _ | exact Kd.V_nil _ _ _ _ _ | exact Kd.Q_nil _ _ _ _ _ | exact Kd.S_nil _ _ _ _ _, zs2 HB GE361 GE362⟩
 rw [if_neg c13] at H
 have c13b0 : decide ((l0_2.length : Int) ≤ a1) = false := decide_eq_false c13
 clear c13
 by_cases c21 : a2 < 0
 ·rw [if_pos c21] at H
  have c21b0 : decide (a2 < 0) = true := decide_eq_true c21
  clear c21
  simp only [Option.some.injEq, Prod.mk.injEq] at H
  obtain ⟨rfl, rfl, rfl, rfl, rfl, rfl⟩ := H
  go_enter Try.func51, Try.ntmps51
  go_wp2_with (first | ((with_reducible refine gate_dst (N := 3) rfl ?_); (try (refine gate_guard (by rfl) ?_; dsimp only)); refine zbx 3 #[.int .i64 a0_0, .int .i64 a0_1, .slice A0_2 l0_2.length c0_2, .int .i64 a0_3, .int .i64 a0_4] 34 ?_; intro gb361 hg w22 hbox hb; have BK361 := zA hbox; have GW361 := zgs hg (zs0 HB); have GE361 := zgs hg (zs0 HB); replace HB := zE (zs0 HB) hb; clear hb hbox hg) | ((with_reducible refine gate_dst (N := 6) rfl ?_); (try (refine gate_guard (by rfl) ?_; dsimp only)); refine zbx 6 #[.int .i64 0, .int .i64 0, .slice none 0 0, .int .i64 0, .int .i64 0] 34 ?_; intro gb362 hg w23 hbox hb; have BK362 := zA hbox; have GW362 := zgs hg (zs1 HB GE361); have GE362 := zgs hg (zs1 HB GE361); have NB361_362 := zne hg BK361; have NB362_361 := znf hg BK361; replace BK361 := zb BK361 hb; replace HB := zE (zs1 HB GE361) hb; clear hb hbox hg; have hnb24 := NB361_362.out; have hnc24 := NB362_361.out; obtain ⟨hcz25_0, hcz25_1, hcz25_2, hcz25_3, hcz25_4⟩ := zd5 BK361; obtain ⟨hfz25_0, hfz25_1, hfz25_2, hfz25_3, hfz25_4⟩ := zn5 BK361) | ((with_reducible refine gate_callee (f := 43) rfl ?_); refine zgl Try.func43 #[.agg #[.int .i64 a0_0, .int .i64 a0_1, .slice A0_2 l0_2.length c0_2, .int .i64 a0_3, .int .i64 a0_4]] ?_; (with_reducible refine (impl_FlySpans.calls k a0_0 a0_1 _ _ l0_2 a0_3 a0_4 t363 true _ ?side1 ?side2 A4.out).mono ?_); (case side1 => exact zC HR0_2 HB); (case side2 => exact HC0_2.out); rintro e w26 ⟨v364, rfl, ho0, hb⟩; refine ⟨_, rfl, ?_⟩; have HO365 := zA (Kd.R_lower ho0 (below_size (zs2 HB GE361 GE362))); replace BK361 := zb BK361 hb; replace BK362 := zb BK362 hb; replace HB := zE (zs2 HB GE361 GE362) hb; (try clear hb); (try clear hb2); (try clear hk); (try clear hi); (try clear ho0); obtain ⟨hcz27_0, hcz27_1, hcz27_2, hcz27_3, hcz27_4⟩ := zd5 BK361; obtain ⟨hfz27_0, hfz27_1, hfz27_2, hfz27_3, hfz27_4⟩ := zn5 BK361; obtain ⟨hcz28_0, hcz28_1, hcz28_2, hcz28_3, hcz28_4⟩ := zd5 BK362; obtain ⟨hfz28_0, hfz28_1, hfz28_2, hfz28_3, hfz28_4⟩ := zn5 BK362))
  refine bodyPost_ret (results_ct rfl _ _ gb362 34 #[.int .i64 0, .int .i64 0, .slice none 0 0, .int .i64 0, .int .i64 0] (0, 0) _ rfl ?hz Try.underlying34 rfl (by kernel_rfl)) rfl ?_; (case hz => exact zpb BK362)
  exact ⟨_, ze, by first | exact Kd.R_nil _ _ _ _ _ | exact Kd.N_nil _ _ _ _ _ | exact Kd.V_nil _ _ _ _ _ | exact Kd.Q_nil _ _ _ _ _ | exact Kd.S_nil _ _ _ _ _, zs2 HB GE361 GE362⟩
 rw [if_neg c21] at H
 have c21b0 : decide (a2 < 0) = false := decide_eq_false c21
 clear c21
 by_cases c29 : a2 > 10000
 ·rw [if_pos c29] at H
  have c29b0 : decide (10000 < a2) = true := decide_eq_true c29
  clear c29
  simp only [Option.some.injEq, Prod.mk.injEq] at H
  obtain ⟨rfl, rfl, rfl, rfl, rfl, rfl⟩ := H
  go_enter Try.func51, Try.ntmps51
  go_wp2_with (first | ((with_reducible refine gate_dst (N := 3) rfl ?_); (try (refine gate_guard (by rfl) ?_; dsimp only)); refine zbx 3 #[.int .i64 a0_0, .int .i64 a0_1, .slice A0_2 l0_2.length c0_2, .int .i64 a0_3, .int .i64 a0_4] 34 ?_; intro gb361 hg w30 hbox hb; have BK361 := zA hbox; have GW361 := zgs hg (zs0 HB); have GE361 := zgs hg (zs0 HB); replace HB := zE (zs0 HB) hb; clear hb hbox hg) | ((with_reducible refine gate_dst (N := 6) rfl ?_); (try (refine gate_guard (by rfl) ?_; dsimp only)); refine zbx 6 #[.int .i64 0, .int .i64 0, .slice none 0 0, .int .i64 0, .int .i64 0] 34 ?_; intro gb362 hg w31 hbox hb; have BK362 := zA hbox; have GW362 := zgs hg (zs1 HB GE361); have GE362 := zgs hg (zs1 HB GE361); have NB361_362 := zne hg BK361; have NB362_361 := znf hg BK361; replace BK361 := zb BK361 hb; replace HB := zE (zs1 HB GE361) hb; clear hb hbox hg; have hnb32 := NB361_362.out; have hnc32 := NB362_361.out; obtain ⟨hcz33_0, hcz33_1, hcz33_2, hcz33_3, hcz33_4⟩ := zd5 BK361; obtain ⟨hfz33_0, hfz33_1, hfz33_2, hfz33_3, hfz33_4⟩ := zn5 BK361) | ((with_reducible refine gate_callee (f := 43) rfl ?_); refine zgl Try.func43 #[.agg #[.int .i64 a0_0, .int .i64 a0_1, .slice A0_2 l0_2.length c0_2, .int .i64 a0_3, .int .i64 a0_4]] ?_; (with_reducible refine (impl_FlySpans.calls k a0_0 a0_1 _ _ l0_2 a0_3 a0_4 t363 true _ ?side1 ?side2 A4.out).mono ?_); (case side1 => exact zC HR0_2 HB); (case side2 => exact HC0_2.out); rintro e w34 ⟨v364, rfl, ho0, hb⟩; refine ⟨_, rfl, ?_⟩; have HO365 := zA (Kd.R_lower ho0 (below_size (zs2 HB GE361 GE362))); replace BK361 := zb BK361 hb; replace BK362 := zb BK362 hb; replace HB := zE (zs2 HB GE361 GE362) hb; (try clear hb); (try clear hb2); (try clear hk); (try clear hi); (try clear ho0); obtain ⟨hcz35_0, hcz35_1, hcz35_2, hcz35_3, hcz35_4⟩ := zd5 BK361; obtain ⟨hfz35_0, hfz35_1, hfz35_2, hfz35_3, hfz35_4⟩ := zn5 BK361; obtain ⟨hcz36_0, hcz36_1, hcz36_2, hcz36_3, hcz36_4⟩ := zd5 BK362; obtain ⟨hfz36_0, hfz36_1, hfz36_2, hfz36_3, hfz36_4⟩ := zn5 BK362))
  refine bodyPost_ret (results_ct rfl _ _ gb362 34 #[.int .i64 0, .int .i64 0, .slice none 0 0, .int .i64 0, .int .i64 0] (0, 0) _ rfl ?hz Try.underlying34 rfl (by kernel_rfl)) rfl ?_; (case hz => exact zpb BK362)
  exact ⟨_, ze, by first | exact Kd.R_nil _ _ _ _ _ | exact Kd.N_nil _ _ _ _ _ | exact Kd.V_nil _ _ _ _ _ | exact Kd.Q_nil _ _ _ _ _ | exact Kd.S_nil _ _ _ _ _, zs2 HB GE361 GE362⟩
 rw [if_neg c29] at H
 have c29b0 : decide (10000 < a2) = false := decide_eq_false c29
 clear c29
 by_cases c37 : 0 ≤ a1
 rotate_left
 ·rw [if_neg c37] at H
  exact absurd H (by simp)
 rw [if_pos c37] at H
 have c37b0 : decide (0 ≤ a1) = true := decide_eq_true c37
 clear c37
 by_cases c38 : a1 < (t363.length : Int)
 rotate_left
 ·rw [if_neg c38] at H
  exact absurd H (by simp)
 rw [if_pos c38] at H
 have c38b0 : decide (a1 < (t363.length : Int)) = true := decide_eq_true c38
 clear c38
 obtain ⟨ji39, hji39⟩ : ∃ j_ : Int, (mn ((rd_T46 t363 a1).f1) a2) = j_ := ⟨_, rfl⟩
 first | rw [hji39] at H | simp only [hji39] at H
 (try rw [hji39] at A4)
 have hji39_ : (if a2 < ((rd_T46 t363 a1).f1) then a2 else ((rd_T46 t363 a1).f1)) = ji39 := hji39
 replace H := Option.bind_eq_some_iff.mp H
 obtain ⟨⟨t369, t370, t371, t374, t375, t376⟩, A400, H⟩ := H
 replace H : (some (t369, t370, t371, t374, t375, t376)) = some (r1, r2, r3, r4, r5, r6) := H
 have A40 := zA A400
 clear A400
 simp only [Option.some.injEq, Prod.mk.injEq] at H
 obtain ⟨rfl, rfl, rfl, rfl, rfl, rfl⟩ := H
 go_enter Try.func51, Try.ntmps51
 try go_wp2_with (first | ((with_reducible refine gate_dst (N := 3) rfl ?_); (try (refine gate_guard (by rfl) ?_; dsimp only)); refine zbx 3 #[.int .i64 a0_0, .int .i64 a0_1, .slice A0_2 l0_2.length c0_2, .int .i64 a0_3, .int .i64 a0_4] 34 ?_; intro gb361 hg w41 hbox hb; have BK361 := zA hbox; have GW361 := zgs hg (zs0 HB); have GE361 := zgs hg (zs0 HB); replace HB := zE (zs0 HB) hb; clear hb hbox hg) | ((with_reducible refine gate_dst (N := 6) rfl ?_); (try (refine gate_guard (by rfl) ?_; dsimp only)); refine zbx 6 #[.int .i64 0, .int .i64 0, .slice none 0 0, .int .i64 0, .int .i64 0] 34 ?_; intro gb362 hg w42 hbox hb; have BK362 := zA hbox; have GW362 := zgs hg (zs1 HB GE361); have GE362 := zgs hg (zs1 HB GE361); have NB361_362 := zne hg BK361; have NB362_361 := znf hg BK361; replace BK361 := zb BK361 hb; replace HB := zE (zs1 HB GE361) hb; clear hb hbox hg; have hnb43 := NB361_362.out; have hnc43 := NB362_361.out; obtain ⟨hcz44_0, hcz44_1, hcz44_2, hcz44_3, hcz44_4⟩ := zd5 BK361; obtain ⟨hfz44_0, hfz44_1, hfz44_2, hfz44_3, hfz44_4⟩ := zn5 BK361) | ((with_reducible refine gate_callee (f := 43) rfl ?_); refine zgl Try.func43 #[.agg #[.int .i64 a0_0, .int .i64 a0_1, .slice A0_2 l0_2.length c0_2, .int .i64 a0_3, .int .i64 a0_4]] ?_; (with_reducible refine (impl_FlySpans.calls k a0_0 a0_1 _ _ l0_2 a0_3 a0_4 t363 true _ ?side1 ?side2 A4.out).mono ?_); (case side1 => exact zC HR0_2 HB); (case side2 => exact HC0_2.out); rintro e w45 ⟨v364, rfl, ho0, hb⟩; refine ⟨_, rfl, ?_⟩; have HO365 := zA (Kd.R_lower ho0 (below_size (zs2 HB GE361 GE362))); replace BK361 := zb BK361 hb; replace BK362 := zb BK362 hb; replace HB := zE (zs2 HB GE361 GE362) hb; (try clear hb); (try clear hb2); (try clear hk); (try clear hi); (try clear ho0); obtain ⟨hcz46_0, hcz46_1, hcz46_2, hcz46_3, hcz46_4⟩ := zd5 BK361; obtain ⟨hfz46_0, hfz46_1, hfz46_2, hfz46_3, hfz46_4⟩ := zn5 BK361))
 replace HO365 := zA (Kd.R_drew HO365.out)
 replace BK361 := zA (blk_drew BK361.out)
 replace BK362 := zA (blk_drew BK362.out)
 replace HB := zA (below_drew1 HB.out)
 obtain ⟨Ao48, co48, eo48⟩ := Kd.R_slice HO365.out
 (first | subst eo48 | (injection eo48 with f1_ f2_ f3_; have f4_ := f1_.symm; have f5_ := f3_.symm; clear f1_ f2_ f3_; subst f4_; subst f5_))
 have p367 : 0 ≤ (a1 : Int) := za
 have q367 : a1 < (t363.length : Int) := za
 obtain ⟨ad367, e367, hx367_0, hx367_1⟩ := at_T46 (Kd.R_reads' HO365.out).2.2 a1 p367 q367
 cases e367
 replace p367 := eq_true p367
 replace q367 := eq_true q367
 have p368 : 0 ≤ (a1 : Int) := za
 have q368 : a1 < (t363.length : Int) := za
 obtain ⟨ad368, e368, hx368_0, hx368_1⟩ := at_T46 (Kd.R_reads' HO365.out).2.2 a1 p368 q368
 obtain rfl : ad367 = ad368 := (by injection e368)
 replace p368 := eq_true p368
 replace q368 := eq_true q368
 refine start_ (n := 20) (S := fun w' => w'.cell? ⟨gb361, 0, none⟩ = some (.int .i64 a0_0) ∧ w'.cell? ⟨gb361, 1, none⟩ = some (.int .i64 a0_1) ∧ w'.cell? ⟨gb361, 2, none⟩ = some (.slice A0_2 l0_2.length c0_2) ∧ w'.cell? ⟨gb361, 3, none⟩ = some (.int .i64 a0_3) ∧ w'.cell? ⟨gb361, 4, none⟩ = some (.int .i64 a0_4) ∧ w'.cell? (ad367.add ((a1).toNat * 2)) = some (.int .i64 ((rd_T46 t363 a1).f0)) ∧ w'.cell? ⟨(ad367.add ((a1).toNat * 2)).block, (ad367.add ((a1).toNat * 2)).off + 1, none⟩ = some (.int .i64 ((rd_T46 t363 a1).f1)) ∧ w'.cell? (ad367.add ((a1).toNat * 2)) = some (.int .i64 ((rd_T46 t363 a1).f0)) ∧ w'.cell? ⟨(ad367.add ((a1).toNat * 2)).block, (ad367.add ((a1).toNat * 2)).off + 1, none⟩ = some (.int .i64 ((rd_T46 t363 a1).f1))) (ds := []) #[F,F,F,F,F,F,F,F,F,F,F,F,F,F,F,F,F,F,F,F] (by kernel_rfl) rfl rfl ⟨zc0 BK361, zc1 BK361, zc2 BK361, zc3 BK361, zc4 BK361, hx367_0, hx367_1, hx368_0, hx368_1⟩ (fun hHeld => ?_); refine with_tabW impl_FlySeen.tab4 impl_FlySeen.bits4 (fun HT_ HW_ => ?_)
 generalize w45.drew = w47 at HO365 BK361 BK362 HB hx367_0 hx367_1 hx368_0 hx368_1 hHeld ⊢
 refine zq HT_ 1 ?_
 refine zq HT_ 2 ?_
 refine zq HT_ 3 ?_
 refine zq HT_ 4 ?_
 refine zq HT_ 5 ?_
 refine zq HT_ 7 ?_
 refine zq HT_ 8 ?_
 refine zq HT_ 9 ?_
 refine zq HT_ 10 ?_
 refine zq HT_ 12 ?_
 refine zq HT_ 14 ?_
 refine zk9 HT_ HW_ hHeld 0 ?_
 refine zk9 HT_ HW_ hHeld 6 ?_
 refine zk9 HT_ HW_ hHeld 11 ?_
 refine zq HT_ 13 ?_
 refine zo HT_ 15 (fun K hK => ?_)
 refine goes_ Try.func88 (by kernel_rfl) rfl #[.agg #[.int .i64 a0_0, .int .i64 a0_1, .slice A0_2 l0_2.length c0_2, .int .i64 a0_3, .int .i64 a0_4], .int .i64 a1, .int .i64 ((rd_T46 t363 a1).f0), .int .i64 ji39, .int .i64 a2] (by rfl) rfl rfl (by (try simp only [List.map_toArray, List.map_cons, List.map_nil]); first | done | (simp only [hji39]; rfl) | rfl | (simp only [List.length_drop, List.length_take]; rfl)) ?_
 with_reducible refine (impl_FlyPath_rest.calls k a0_0 a0_1 _ _ l0_2 a0_3 a0_4 a1 ((rd_T46 t363 a1).f0) ji39 a2 t369 t370 t371 t374 t375 t376 _ ?side1 ?side2 A40.out).mono ?_
 (case side1 => exact zC HR0_2 HB)
 (case side2 => exact HC0_2.out)
 rintro e w49 ⟨v372, rfl, ho0, hb⟩
 have HS5_ := (hb.cell (World.block_lt_of_cell? _ _ (hHeld.2.2.2.2.2.1))).trans (hHeld.2.2.2.2.2.1)
 have HS6_ := (hb.cell (World.block_lt_of_cell? _ _ (hHeld.2.2.2.2.2.2.1))).trans (hHeld.2.2.2.2.2.2.1)
 have HS7_ := (hb.cell (World.block_lt_of_cell? _ _ (hHeld.2.2.2.2.2.2.2.1))).trans (hHeld.2.2.2.2.2.2.2.1)
 have HS8_ := (hb.cell (World.block_lt_of_cell? _ _ (hHeld.2.2.2.2.2.2.2.2))).trans (hHeld.2.2.2.2.2.2.2.2)
 refine ⟨_, rfl, ?_⟩
 have HO373 := zA (Kd.R_lower ho0 (below_size (zs2 HB GE361 GE362)))
 replace HO365 := zA (Kd.R_below (zr HO365) hb)
 replace BK361 := zb BK361 hb
 replace BK362 := zb BK362 hb
 replace HB := zE (zs2 HB GE361 GE362) hb
 (try clear hb)
 (try clear hb2)
 (try clear hk)
 (try clear hi)
 (try clear ho0)
 obtain ⟨Ao52, co52, eo52⟩ := Kd.R_slice HO373.out
 (first | subst eo52 | (injection eo52 with f1_ f2_ f3_; have f4_ := f1_.symm; have f5_ := f3_.symm; clear f1_ f2_ f3_; subst f4_; subst f5_))
 refine hK.out _ _ ⟨zc0 BK361, zc1 BK361, zc2 BK361, zc3 BK361, zc4 BK361, HS5_, HS6_, HS7_, HS8_⟩ (fun hHeld => ?_)
 clear hK K
 refine zN ?_
 refine zq HT_ 16 ?_
 refine zq HT_ 17 ?_
 refine zo HT_ 18 (fun K hK => ?_)
 have hs50 : w49.cell? ⟨gb362, 0, none⟩ = some (.int .i64 0) := zc0 BK362
 have hfs50 := zf BK362 0
 have hns50_0 := NB361_362.out
 have hms50_0 := NB362_361.out
 have hs51 : w49.cell? ⟨gb362, 1, none⟩ = some (.int .i64 0) := zc1 BK362
 have hfs51 := zf BK362 1
 have hns51_0 := NB361_362.out
 have hms51_0 := NB362_361.out
 have hs53 : w49.cell? ⟨gb362, 2, none⟩ = some (.slice none 0 0) := zc2 BK362
 have hfs53 := zf BK362 2
 have hns53_0 := NB361_362.out
 have hms53_0 := NB362_361.out
 have hs54 : w49.cell? ⟨gb362, 3, none⟩ = some (.int .i64 0) := zc3 BK362
 have hfs54 := zf BK362 3
 have hns54_0 := NB361_362.out
 have hms54_0 := NB362_361.out
 have hs55 : w49.cell? ⟨gb362, 4, none⟩ = some (.int .i64 0) := zc4 BK362
 have hfs55 := zf BK362 4
 have hns55_0 := NB361_362.out
 have hms55_0 := NB362_361.out
 refine skip_ (w1 := ?_) (by rfl) rfl ?_ ?_
 rotate_left
 ·go_simp
  rfl
 refine hK.out _ _ (zcb hHeld NB361_362 (Kd.own_blk (Kd.R_ne HO365.out BK362.out (by decide)))) (fun hHeld => ?_)
 clear hK K
 refine zq HT_ 19 ?_
 refine done_ (done_of HT_.out (by kernel_rfl)) ?_
 try go_wp2
 refine bodyPost_ret (results_ct rfl _ _ gb362 34 #[.int .i64 t369, .int .i64 t370, .slice Ao52 t371.length co52, .int .i64 t374, .int .i64 t375] (0, 0) _ rfl ?hz Try.underlying34 rfl (by kernel_rfl)) rfl ?_; (case hz => exact zpb BK362)
 exact ⟨_, by first | rfl | (simp [errW_none, errW_some] <;> rfl) | (simp only [← hji39]; first | rfl | (simp [errW_none, errW_some] <;> rfl)) | (simp [*, errW_none, errW_some] <;> rfl), by (with_reducible repeat (first | apply Kd.R_alloc | apply Kd.R_drewN | apply Kd.R_drew)); exact Kd.R_mono (Kd.R_far (p := ⟨gb362, 4, none⟩) (Kd.R_far (p := ⟨gb362, 3, none⟩) (Kd.R_far (p := ⟨gb362, 2, none⟩) (Kd.R_far (p := ⟨gb362, 1, none⟩) (Kd.R_far (p := ⟨gb362, 0, none⟩) (Kd.R_types HO373.out BK362.out (by decide)) (fun _ hk => hk.2) (.int .i64 t369)) (fun _ hk => hk.2) (.int .i64 t370)) (fun _ hk => hk.2) (.slice Ao52 t371.length co52)) (fun _ hk => hk.2) (.int .i64 t374)) (fun _ hk => hk.2) (.int .i64 t375)) (fun _ hk => trivial), zs2 HB GE361 GE362⟩
end Go.Proofs.Ytidenmcoilmbcaa.QFnExactFlySeen
