/- The walk of what the law FnExactFlyGo reaches: laid by a program of this session (ownprint.py). -/
import Derived.Test.YtidenmcoilmbcaaQFnExactFlyGox0
import Derived.Test.YtidenmcoilmbcaaQFnExactFlyGox11
import Derived.Test.YtidenmcoilmbcaaQFnExactFlyGox13
namespace Go.Proofs.Ytidenmcoilmbcaa.QFnExactFlyGo
open Go.RowKit Go.Proofs.YtidenmcoilmbcaaW.PrintWords Go.Proofs.YtidenmcoilmbcaaW.PrintLast Go.Proofs.YtidenmcoilmbcaaW.PrintMore Go.Proofs.Ytidenmcoilmbcaa.Z
attribute [local go_sem] max2_int min2_int max_two min_two max_three min_three max_four min_four zdn   -- for this text's walks alone
set_option linter.unusedVariables false
set_option linter.unusedSimpArgs false
def impl_FlyNext.j0 : Nat → List Int → Bool → Int → Int → List (S88) → Int → Int → Option (Int × Int × Bool)
 | 0, _, _, _, _, _, _, _ => none
 | k + 1, x1, x18, x334000, x334001, x334002, x334003, x334004 => if x18 = true then (some (0, 0, false)) else ((impl_FlyPath_spans.f k x334000 x334001 x334002 x334003 x334004 x1).bind fun bt336 => (if bt336.2 = true then (if 0 ≤ (x1.length : Int) then (if (x1.length : Int) < (bt336.1.length : Int) then (some ((rd_T46 bt336.1 (x1.length : Int)).f0, (rd_T46 bt336.1 (x1.length : Int)).f1, true)) else (none)) else (none)) else (some (0, 0, false))))
def impl_FlyNext.f (k : Nat) (a0_0 : Int) (a0_1 : Int) (l0_2 : List (S88)) (a0_3 : Int) (a0_4 : Int) (l1 : List Int) : Option (Int × Int × Bool) := (impl_FlyPathOk.f k a0_0 a0_1 l0_2 a0_3 a0_4).bind fun t335 => (if t335 = true then (impl_FlyNext.j0 k l1 (decide ((l1.length : Int) > (l0_2.length : Int))) a0_0 a0_1 l0_2 a0_3 a0_4) else (impl_FlyNext.j0 k l1 true a0_0 a0_1 l0_2 a0_3 a0_4))
set_option maxHeartbeats 8000000 in
set_option maxRecDepth 100000 in
theorem impl_FlyNext.calls (k : Nat) (a0_0 : Int) (a0_1 : Int) (A0_2 : Option Addr) (c0_2 : Nat) (l0_2 : List (S88)) (a0_3 : Int) (a0_4 : Int) (A1 : Option Addr) (c1 : Nat) (l1 : List Int) (r1 : Int) (r2 : Int) (r3 : Bool) (w : World) (hr0_2 : Kd.C k88 w A0_2 l0_2.length l0_2) (hc0_2 : l0_2.length ≤ c0_2) (hr1 : Kd.C (Kd.int .i64) w A1 l1.length l1) (hc1 : l1.length ≤ c1) (h : impl_FlyNext.f k a0_0 a0_1 l0_2 a0_3 a0_4 l1 = some (r1, r2, r3)) :
 Calls Try.prog 26 #[.agg #[.int .i64 a0_0, .int .i64 a0_1, .slice A0_2 l0_2.length c0_2, .int .i64 a0_3, .int .i64 a0_4], .slice A1 l1.length c1] w fun e w' => e = .returned (.tuple #[.agg #[.int .i64 r1, .int .i64 r2], .bool r3]) ∧ Below w.heap.size w w' := by
 have hu34 := Try.underlying34
 have hu46 := Try.underlying46
 have HR0_2 := zA hr0_2
 have HC0_2 := zA hc0_2
 clear hr0_2 hc0_2
 have HR1 := zA hr1
 have HC1 := zA hc1
 clear hr1 hc1
 have HB := zA (Below.refl w.heap.size w)
 have H : ((impl_FlyPathOk.f k a0_0 a0_1 l0_2 a0_3 a0_4).bind fun t335 => (if t335 = true then (impl_FlyNext.j0 k l1 (decide ((l1.length : Int) > (l0_2.length : Int))) a0_0 a0_1 l0_2 a0_3 a0_4) else (impl_FlyNext.j0 k l1 true a0_0 a0_1 l0_2 a0_3 a0_4))) = some (r1, r2, r3) := h
 clear h
 have HC3 := zA H
 clear H
 go_enter Try.func26, Try.ntmps26
 go_upto_region 1 with (first | ((with_reducible refine gate_dst (N := 2) rfl ?_); (try (refine gate_guard (by rfl) ?_; dsimp only)); refine zbx 2 #[.int .i64 a0_0, .int .i64 a0_1, .slice A0_2 l0_2.length c0_2, .int .i64 a0_3, .int .i64 a0_4] 34 ?_; intro gb333 hg w4 hbox hb; have BK333 := zA hbox; have GW333 := zgs hg (zs0 HB); have GE333 := zgs hg (zs0 HB); replace HB := zE (zs0 HB) hb; clear hb hbox hg) | ((with_reducible refine gate_dst (N := 4) rfl ?_); (try (refine gate_guard (by rfl) ?_; dsimp only)); refine zbx 4 #[.int .i64 0, .int .i64 0] 46 ?_; intro gb334 hg w5 hbox hb; have BK334 := zA hbox; have GW334 := zgs hg (zs1 HB GE333); have GE334 := zgs hg (zs1 HB GE333); have NB333_334 := zne hg BK333; have NB334_333 := znf hg BK333; replace BK333 := zb BK333 hb; replace HB := zE (zs1 HB GE333) hb; clear hb hbox hg))
 (try simp only [Act.put, List.setIfInBounds_toArray, List.set_cons_zero, List.set_cons_succ])
 go_cut [18] (fun v18 wc => ∃ (kq : Nat) (x18_2 : Bool), v18 = .bool x18_2 ∧ Aside0 (impl_FlyNext.j0 kq l1 x18_2 a0_0 a0_1 l0_2 a0_3 a0_4 = some (r1, r2, r3)) ∧ Aside0 (kq ≤ k) ∧ Aside0 (wc.heap[gb333]? = some (.cells #[.int .i64 a0_0, .int .i64 a0_1, (.slice A0_2 l0_2.length c0_2), .int .i64 a0_3, .int .i64 a0_4] 34 (0, 0))) ∧ Aside0 (wc.heap[gb334]? = some (.cells #[.int .i64 0, .int .i64 0] 46 (0, 0))) ∧ Aside0 (Below w.heap.size w wc))
 case first =>
  have H := HC3.out
  clear HC3
  replace H := zbd H; obtain ⟨t335, A6, H⟩ := H
  by_cases c7 : t335 = true
  rotate_left
  ·replace c7 := Bool.eq_false_iff.mpr c7
   subst c7
   have H1 : (impl_FlyNext.j0 k l1 true a0_0 a0_1 l0_2 a0_3 a0_4) = some (r1, r2, r3) := by rw [if_neg (show ¬ (false = true) by decide)] at H; exact H
   clear H
   have H := H1
   clear H1
   have H' := zA H
   clear H
   have hnb12 := NB333_334.out
   have hnc12 := NB334_333.out
   obtain ⟨hcz13_0, hcz13_1, hcz13_2, hcz13_3, hcz13_4⟩ := zd5 BK333
   obtain ⟨hfz13_0, hfz13_1, hfz13_2, hfz13_3, hfz13_4⟩ := zn5 BK333
   go_wp2_with (first | ((with_reducible refine gate_callee (f := 33) rfl ?_); refine zgl (N := some 9) Try.func33 #[.agg #[.int .i64 a0_0, .int .i64 a0_1, .slice A0_2 l0_2.length c0_2, .int .i64 a0_3, .int .i64 a0_4]] ?_; (with_reducible refine (impl_FlyPathOk.calls k a0_0 a0_1 _ _ l0_2 a0_3 a0_4 false _ ?side1 ?side2 A6.out).mono ?_); (case side1 => exact zC HR0_2 HB); (case side2 => exact HC0_2.out); rintro e w14 ⟨rfl, hb⟩; refine ⟨_, rfl, ?_⟩; replace BK333 := zb BK333 hb; replace BK334 := zb BK334 hb; replace HB := zE (zs2 HB GE333 GE334) hb; (try clear hb); (try clear hb2); (try clear hk); (try clear hi)))
   go_meet
   case rel => exact ⟨_, (true), zi, H', ⟨by first | omega | exact Nat.le_refl _⟩, ⟨zh BK333⟩, ⟨zh BK334⟩, ⟨zs2 HB GE333 GE334⟩⟩
  subst c7
  have H1 : (impl_FlyNext.j0 k l1 (decide ((l1.length : Int) > (l0_2.length : Int))) a0_0 a0_1 l0_2 a0_3 a0_4) = some (r1, r2, r3) := by rw [if_pos rfl] at H; exact H
  clear H
  have H := H1
  clear H1
  have H' := zA H
  clear H
  have hnb8 := NB333_334.out
  have hnc8 := NB334_333.out
  obtain ⟨hcz9_0, hcz9_1, hcz9_2, hcz9_3, hcz9_4⟩ := zd5 BK333
  obtain ⟨hfz9_0, hfz9_1, hfz9_2, hfz9_3, hfz9_4⟩ := zn5 BK333
  go_wp2_with (first | ((with_reducible refine gate_callee (f := 33) rfl ?_); refine zgl (N := some 9) Try.func33 #[.agg #[.int .i64 a0_0, .int .i64 a0_1, .slice A0_2 l0_2.length c0_2, .int .i64 a0_3, .int .i64 a0_4]] ?_; (with_reducible refine (impl_FlyPathOk.calls k a0_0 a0_1 _ _ l0_2 a0_3 a0_4 true _ ?side1 ?side2 A6.out).mono ?_); (case side1 => exact zC HR0_2 HB); (case side2 => exact HC0_2.out); rintro e w10 ⟨rfl, hb⟩; refine ⟨_, rfl, ?_⟩; replace BK333 := zb BK333 hb; replace BK334 := zb BK334 hb; replace HB := zE (zs2 HB GE333 GE334) hb; (try clear hb); (try clear hb2); (try clear hk); (try clear hi); obtain ⟨hcz11_0, hcz11_1, hcz11_2, hcz11_3, hcz11_4⟩ := zd5 BK333; obtain ⟨hfz11_0, hfz11_1, hfz11_2, hfz11_3, hfz11_4⟩ := zn5 BK333))
  go_meet
  case rel => exact ⟨_, (decide ((l1.length : Int) > (l0_2.length : Int))), zi, H', ⟨by first | omega | exact Nat.le_refl _⟩, ⟨zh BK333⟩, ⟨zh BK334⟩, ⟨zs2 HB GE333 GE334⟩⟩
 case rest =>
  clear HC3
  try clear c1
  try clear c2
  try clear p2
  try clear c3
  try clear c7
  try clear c8
  try clear c12
  try clear hcz11_0 hcz11_1 hcz11_2 hcz11_3 hcz11_4
  try clear hcz13_0 hcz13_1 hcz13_2 hcz13_3 hcz13_4
  try clear hcz9_0 hcz9_1 hcz9_2 hcz9_3 hcz9_4
  try clear hfz11_0 hfz11_1 hfz11_2 hfz11_3 hfz11_4
  try clear hfz13_0 hfz13_1 hfz13_2 hfz13_3 hfz13_4
  try clear hfz9_0 hfz9_1 hfz9_2 hfz9_3 hfz9_4
  obtain ⟨kq, x18_2, rfl, HA, HJ2, BK333, BK334, HB⟩ := hcut
  cases kq with
  | zero => exact absurd HA.out (by simp [impl_FlyNext.j0])
  | succ kj2 =>
   have H := HA.out
   clear HA
   simp only [impl_FlyNext.j0] at H
   by_cases c15 : x18_2 = true
   ·subst c15
    have H1 : (some (0, 0, false)) = some (r1, r2, r3) := by rw [if_pos rfl] at H; exact H
    clear H
    have H := H1
    clear H1
    simp only [Option.some.injEq, Prod.mk.injEq] at H
    obtain ⟨rfl, rfl, rfl⟩ := H
    have hnb16 := NB334_333.out
    have hnc16 := NB333_334.out
    obtain ⟨hcz17_0, hcz17_1⟩ := zd2 BK334
    obtain ⟨hfz17_0, hfz17_1⟩ := zn2 BK334
    go_wp2
    refine bodyPost_ret (results_ct rfl _ _ gb334 46 #[.int .i64 0, .int .i64 0] (0, 0) _ rfl ?hz Try.underlying46 rfl (by kernel_rfl)) rfl ?_; (case hz => exact zpb BK334)
    exact ⟨ze, zs2 HB GE333 GE334⟩
   replace c15 := Bool.eq_false_iff.mpr c15
   subst c15
   have H1 : ((impl_FlyPath_spans.f kj2 a0_0 a0_1 l0_2 a0_3 a0_4 l1).bind fun bt336 => (if bt336.2 = true then (if 0 ≤ (l1.length : Int) then (if (l1.length : Int) < (bt336.1.length : Int) then (some ((rd_T46 bt336.1 (l1.length : Int)).f0, (rd_T46 bt336.1 (l1.length : Int)).f1, true)) else (none)) else (none)) else (some (0, 0, false)))) = some (r1, r2, r3) := by rw [if_neg (show ¬ (false = true) by decide)] at H; exact H
   clear H
   have H := H1
   clear H1
   replace H := Option.bind_eq_some_iff.mp H
   obtain ⟨⟨t336, t339⟩, A180, H⟩ := H
   replace H : (if t339 = true then (if 0 ≤ (l1.length : Int) then (if (l1.length : Int) < (t336.length : Int) then (some ((rd_T46 t336 (l1.length : Int)).f0, (rd_T46 t336 (l1.length : Int)).f1, true)) else (none)) else (none)) else (some (0, 0, false))) = some (r1, r2, r3) := H
   have A18 := zA A180
   clear A180
   by_cases c19 : t339 = true
   rotate_left
   ·replace c19 := Bool.eq_false_iff.mpr c19
    subst c19
    have H1 : (some (0, 0, false)) = some (r1, r2, r3) := by rw [if_neg (show ¬ (false = true) by decide)] at H; exact H
    clear H
    have H := H1
    clear H1
    simp only [Option.some.injEq, Prod.mk.injEq] at H
    obtain ⟨rfl, rfl, rfl⟩ := H
    have hnb27 := NB333_334.out
    have hnc27 := NB334_333.out
    obtain ⟨hcz28_0, hcz28_1, hcz28_2, hcz28_3, hcz28_4⟩ := zd5 BK333
    obtain ⟨hfz28_0, hfz28_1, hfz28_2, hfz28_3, hfz28_4⟩ := zn5 BK333
    go_wp2_with (first | ((with_reducible refine gate_callee (f := 64) rfl ?_); refine zgl (N := some 23) Try.func64 #[.agg #[.int .i64 a0_0, .int .i64 a0_1, .slice A0_2 l0_2.length c0_2, .int .i64 a0_3, .int .i64 a0_4], .slice A1 l1.length c1] ?_; (with_reducible refine (impl_FlyPath_spans.calls kj2 a0_0 a0_1 _ _ l0_2 a0_3 a0_4 _ _ l1 t336 false _ ?side1 ?side2 ?side3 ?side4 A18.out).mono ?_); (case side1 => exact zC HR0_2 HB); (case side2 => exact HC0_2.out); (case side3 => exact zC HR1 HB); (case side4 => exact HC1.out); rintro e w29 ⟨v337, rfl, ho0, hb⟩; refine ⟨_, rfl, ?_⟩; have HO338 := zA (Kd.R_lower (Kd.R_newB ho0 (g := gb334) (o := .cells #[.int .i64 0, .int .i64 0] 46 (0, 0)) (zh BK334)) (below_size (zs2 HB GE333 GE334))); replace BK333 := zb BK333 hb; replace BK334 := zb BK334 hb; replace HB := zE (zs2 HB GE333 GE334) hb; (try clear hb); (try clear hb2); (try clear hk); (try clear hi); (try clear ho0); obtain ⟨hcz30_0, hcz30_1⟩ := zd2 BK334; obtain ⟨hfz30_0, hfz30_1⟩ := zn2 BK334))
    refine bodyPost_ret (results_ct rfl _ _ gb334 46 #[.int .i64 0, .int .i64 0] (0, 0) _ rfl ?hz Try.underlying46 rfl (by kernel_rfl)) rfl ?_; (case hz => exact zpb BK334)
    exact ⟨ze, zs2 HB GE333 GE334⟩
   subst c19
   have H1 : (if 0 ≤ (l1.length : Int) then (if (l1.length : Int) < (t336.length : Int) then (some ((rd_T46 t336 (l1.length : Int)).f0, (rd_T46 t336 (l1.length : Int)).f1, true)) else (none)) else (none)) = some (r1, r2, r3) := by rw [if_pos rfl] at H; exact H
   clear H
   have H := H1
   clear H1
   by_cases c20 : 0 ≤ (l1.length : Int)
   rotate_left
   ·rw [if_neg c20] at H
    exact absurd H (by simp)
   rw [if_pos c20] at H
   have c20b0 : decide (0 ≤ (l1.length : Int)) = true := decide_eq_true c20
   have c20b1 : decide (0 ≤ l1.length) = true := decide_eq_true (by omega)
   clear c20
   by_cases c21 : (l1.length : Int) < (t336.length : Int)
   rotate_left
   ·rw [if_neg c21] at H
    exact absurd H (by simp)
   rw [if_pos c21] at H
   have c21b0 : decide ((l1.length : Int) < (t336.length : Int)) = true := decide_eq_true c21
   have c21b1 : decide (l1.length < t336.length) = true := decide_eq_true (Int.ofNat_lt.mp c21)
   clear c21
   simp only [Option.some.injEq, Prod.mk.injEq] at H
   obtain ⟨rfl, rfl, rfl⟩ := H
   have hnb22 := NB333_334.out
   have hnc22 := NB334_333.out
   obtain ⟨hcz23_0, hcz23_1, hcz23_2, hcz23_3, hcz23_4⟩ := zd5 BK333
   obtain ⟨hfz23_0, hfz23_1, hfz23_2, hfz23_3, hfz23_4⟩ := zn5 BK333
   go_wp2_with (first | ((with_reducible refine gate_callee (f := 64) rfl ?_); refine zgl (N := some 23) Try.func64 #[.agg #[.int .i64 a0_0, .int .i64 a0_1, .slice A0_2 l0_2.length c0_2, .int .i64 a0_3, .int .i64 a0_4], .slice A1 l1.length c1] ?_; (with_reducible refine (impl_FlyPath_spans.calls kj2 a0_0 a0_1 _ _ l0_2 a0_3 a0_4 _ _ l1 t336 true _ ?side1 ?side2 ?side3 ?side4 A18.out).mono ?_); (case side1 => exact zC HR0_2 HB); (case side2 => exact HC0_2.out); (case side3 => exact zC HR1 HB); (case side4 => exact HC1.out); rintro e w24 ⟨v337, rfl, ho0, hb⟩; refine ⟨_, rfl, ?_⟩; have HO338 := zA (Kd.R_lower (Kd.R_newB ho0 (g := gb334) (o := .cells #[.int .i64 0, .int .i64 0] 46 (0, 0)) (zh BK334)) (below_size (zs2 HB GE333 GE334))); replace BK333 := zb BK333 hb; replace BK334 := zb BK334 hb; replace HB := zE (zs2 HB GE333 GE334) hb; (try clear hb); (try clear hb2); (try clear hk); (try clear hi); (try clear ho0); obtain ⟨Ao25, co25, eo25⟩ := Kd.R_slice HO338.out; subst eo25; have p340 : 0 ≤ ((l1.length : Int) : Int) := za; have q340 : (l1.length : Int) < (t336.length : Int) := za; obtain ⟨ad340, e340, hx340_0, hx340_1⟩ := at_T46 (Kd.R_reads' HO338.out).2.2 (l1.length : Int) p340 q340; cases e340; (try simp only [Go.IntWalk.toNatUp] at hx340_0); (try simp only [Go.IntWalk.toNatUp] at hx340_1); replace p340 := eq_true p340; replace q340 := eq_true q340; obtain ⟨hcz26_0, hcz26_1⟩ := zd2 BK334; obtain ⟨hfz26_0, hfz26_1⟩ := zn2 BK334))
   refine bodyPost_ret (results_ct rfl _ _ gb334 46 #[.int .i64 ((rd_T46 t336 (l1.length : Int)).f0), .int .i64 ((rd_T46 t336 (l1.length : Int)).f1)] (0, 0) _ rfl ?hz Try.underlying46 rfl (by kernel_rfl)) rfl ?_; (case hz => exact zpb BK334)
   exact ⟨ze, zs2 HB GE333 GE334⟩
end Go.Proofs.Ytidenmcoilmbcaa.QFnExactFlyGo
