/- The walk of what the law FnExactFlyGo reaches: laid by a program of this session (ownprint.py). -/
import Derived.Test.YtidenmcoilmbcaaQFnExactFlyGox0
import Derived.Test.YtidenmcoilmbcaaQFnExactFlyGox2
import Derived.Test.YtidenmcoilmbcaaQFnExactFlyGox4
import Derived.Test.YtidenmcoilmbcaaQFnExactFlyGox6
namespace Go.Proofs.Ytidenmcoilmbcaa.QFnExactFlyGo
open Go.RowKit Go.Proofs.YtidenmcoilmbcaaW.PrintWords Go.Proofs.YtidenmcoilmbcaaW.PrintLast Go.Proofs.YtidenmcoilmbcaaW.PrintMore Go.Proofs.Ytidenmcoilmbcaa.Z
attribute [local go_sem] max2_int min2_int max_two min_two max_three min_three max_four min_four zdn   -- for this text's walks alone
set_option linter.unusedVariables false
set_option linter.unusedSimpArgs false
def spec_FlyNext.j0 : Nat → List Int → Bool → Int → Int → List (S88) → Int → Int → Option (Int × Int × Bool)
 | 0, _, _, _, _, _, _, _ => none
 | k + 1, x1, x18, x198000, x198001, x198002, x198003, x198004 => if x18 = true then (some (0, 0, false)) else ((spec_l26Held.f k x198000 x198001 x198002 x198003 x198004 x1).bind fun bt200 => ((spec_l24Spans.f k bt200.1 bt200.2.1 bt200.2.2.1 bt200.2.2.2.1 bt200.2.2.2.2).bind fun bt207 => (if bt207.2 = true then (if 0 ≤ (x1.length : Int) then (if (x1.length : Int) < (bt207.1.length : Int) then (some ((rd_T46 bt207.1 (x1.length : Int)).f0, (rd_T46 bt207.1 (x1.length : Int)).f1, true)) else (none)) else (none)) else (some (0, 0, false)))))
def spec_FlyNext.f (k : Nat) (a0_0 : Int) (a0_1 : Int) (l0_2 : List (S88)) (a0_3 : Int) (a0_4 : Int) (l1 : List Int) : Option (Int × Int × Bool) := (spec_FlyPathOk.f k a0_0 a0_1 l0_2 a0_3 a0_4).bind fun t199 => (if t199 = true then (spec_FlyNext.j0 k l1 (decide ((l1.length : Int) > (l0_2.length : Int))) a0_0 a0_1 l0_2 a0_3 a0_4) else (spec_FlyNext.j0 k l1 true a0_0 a0_1 l0_2 a0_3 a0_4))
set_option maxHeartbeats 8000000 in
set_option maxRecDepth 100000 in
theorem spec_FlyNext.calls (k : Nat) (a0_0 : Int) (a0_1 : Int) (A0_2 : Option Addr) (c0_2 : Nat) (l0_2 : List (S88)) (a0_3 : Int) (a0_4 : Int) (A1 : Option Addr) (c1 : Nat) (l1 : List Int) (r1 : Int) (r2 : Int) (r3 : Bool) (w : World) (hr0_2 : Kd.C k88 w A0_2 l0_2.length l0_2) (hc0_2 : l0_2.length ≤ c0_2) (hr1 : Kd.C (Kd.int .i64) w A1 l1.length l1) (hc1 : l1.length ≤ c1) (h : spec_FlyNext.f k a0_0 a0_1 l0_2 a0_3 a0_4 l1 = some (r1, r2, r3)) :
 Calls Try.prog 27 #[.agg #[.int .i64 a0_0, .int .i64 a0_1, .slice A0_2 l0_2.length c0_2, .int .i64 a0_3, .int .i64 a0_4], .slice A1 l1.length c1] w fun e w' => e = .returned (.tuple #[.agg #[.int .i64 r1, .int .i64 r2], .bool r3]) ∧ Below w.heap.size w w' := by
 have hu34 := Try.underlying34
 have hu46 := Try.underlying46
 have HR0_2 := zA hr0_2
 have HC0_2 := zA hc0_2
 clear hr0_2 hc0_2
 have HR1 := zA hr1
 have HC1 := zA hc1
 clear hr1 hc1
 have HB := zA (Below.refl w.heap.size w)
 have H : ((spec_FlyPathOk.f k a0_0 a0_1 l0_2 a0_3 a0_4).bind fun t199 => (if t199 = true then (spec_FlyNext.j0 k l1 (decide ((l1.length : Int) > (l0_2.length : Int))) a0_0 a0_1 l0_2 a0_3 a0_4) else (spec_FlyNext.j0 k l1 true a0_0 a0_1 l0_2 a0_3 a0_4))) = some (r1, r2, r3) := h
 clear h
 have HC3 := zA H
 clear H
 go_enter Try.func27, Try.ntmps27
 go_upto_region 1 with (first | ((with_reducible refine gate_dst (N := 2) rfl ?_); (try (refine gate_guard (by rfl) ?_; dsimp only)); refine zbx 2 #[.int .i64 a0_0, .int .i64 a0_1, .slice A0_2 l0_2.length c0_2, .int .i64 a0_3, .int .i64 a0_4] 34 ?_; intro gb197 hg w4 hbox hb; have BK197 := zA hbox; have GW197 := zgs hg (zs0 HB); have GE197 := zgs hg (zs0 HB); replace HB := zE (zs0 HB) hb; clear hb hbox hg) | ((with_reducible refine gate_dst (N := 4) rfl ?_); (try (refine gate_guard (by rfl) ?_; dsimp only)); refine zbx 4 #[.int .i64 0, .int .i64 0] 46 ?_; intro gb198 hg w5 hbox hb; have BK198 := zA hbox; have GW198 := zgs hg (zs1 HB GE197); have GE198 := zgs hg (zs1 HB GE197); have NB197_198 := zne hg BK197; have NB198_197 := znf hg BK197; replace BK197 := zb BK197 hb; replace HB := zE (zs1 HB GE197) hb; clear hb hbox hg))
 (try simp only [Act.put, List.setIfInBounds_toArray, List.set_cons_zero, List.set_cons_succ])
 go_cut [18] (fun v18 wc => ∃ (kq : Nat) (x18_2 : Bool), v18 = .bool x18_2 ∧ Aside0 (spec_FlyNext.j0 kq l1 x18_2 a0_0 a0_1 l0_2 a0_3 a0_4 = some (r1, r2, r3)) ∧ Aside0 (kq ≤ k) ∧ Aside0 (wc.heap[gb197]? = some (.cells #[.int .i64 a0_0, .int .i64 a0_1, (.slice A0_2 l0_2.length c0_2), .int .i64 a0_3, .int .i64 a0_4] 34 (0, 0))) ∧ Aside0 (wc.heap[gb198]? = some (.cells #[.int .i64 0, .int .i64 0] 46 (0, 0))) ∧ Aside0 (Below w.heap.size w wc))
 case first =>
  have H := HC3.out
  clear HC3
  replace H := zbd H; obtain ⟨t199, A6, H⟩ := H
  by_cases c7 : t199 = true
  rotate_left
  ·replace c7 := Bool.eq_false_iff.mpr c7
   subst c7
   have H1 : (spec_FlyNext.j0 k l1 true a0_0 a0_1 l0_2 a0_3 a0_4) = some (r1, r2, r3) := by rw [if_neg (show ¬ (false = true) by decide)] at H; exact H
   clear H
   have H := H1
   clear H1
   have H' := zA H
   clear H
   have hnb12 := NB197_198.out
   have hnc12 := NB198_197.out
   obtain ⟨hcz13_0, hcz13_1, hcz13_2, hcz13_3, hcz13_4⟩ := zd5 BK197
   obtain ⟨hfz13_0, hfz13_1, hfz13_2, hfz13_3, hfz13_4⟩ := zn5 BK197
   go_wp2_with (first | ((with_reducible refine gate_callee (f := 32) rfl ?_); refine zgl (N := some 9) Try.func32 #[.agg #[.int .i64 a0_0, .int .i64 a0_1, .slice A0_2 l0_2.length c0_2, .int .i64 a0_3, .int .i64 a0_4]] ?_; (with_reducible refine (spec_FlyPathOk.calls k a0_0 a0_1 _ _ l0_2 a0_3 a0_4 false _ ?side1 ?side2 A6.out).mono ?_); (case side1 => exact zC HR0_2 HB); (case side2 => exact HC0_2.out); rintro e w14 ⟨rfl, hb⟩; refine ⟨_, rfl, ?_⟩; replace BK197 := zb BK197 hb; replace BK198 := zb BK198 hb; replace HB := zE (zs2 HB GE197 GE198) hb; (try clear hb); (try clear hb2); (try clear hk); (try clear hi)))
   go_meet
   case rel => exact ⟨_, (true), zi, H', ⟨by first | omega | exact Nat.le_refl _⟩, ⟨zh BK197⟩, ⟨zh BK198⟩, ⟨zs2 HB GE197 GE198⟩⟩
  subst c7
  have H1 : (spec_FlyNext.j0 k l1 (decide ((l1.length : Int) > (l0_2.length : Int))) a0_0 a0_1 l0_2 a0_3 a0_4) = some (r1, r2, r3) := by rw [if_pos rfl] at H; exact H
  clear H
  have H := H1
  clear H1
  have H' := zA H
  clear H
  have hnb8 := NB197_198.out
  have hnc8 := NB198_197.out
  obtain ⟨hcz9_0, hcz9_1, hcz9_2, hcz9_3, hcz9_4⟩ := zd5 BK197
  obtain ⟨hfz9_0, hfz9_1, hfz9_2, hfz9_3, hfz9_4⟩ := zn5 BK197
  go_wp2_with (first | ((with_reducible refine gate_callee (f := 32) rfl ?_); refine zgl (N := some 9) Try.func32 #[.agg #[.int .i64 a0_0, .int .i64 a0_1, .slice A0_2 l0_2.length c0_2, .int .i64 a0_3, .int .i64 a0_4]] ?_; (with_reducible refine (spec_FlyPathOk.calls k a0_0 a0_1 _ _ l0_2 a0_3 a0_4 true _ ?side1 ?side2 A6.out).mono ?_); (case side1 => exact zC HR0_2 HB); (case side2 => exact HC0_2.out); rintro e w10 ⟨rfl, hb⟩; refine ⟨_, rfl, ?_⟩; replace BK197 := zb BK197 hb; replace BK198 := zb BK198 hb; replace HB := zE (zs2 HB GE197 GE198) hb; (try clear hb); (try clear hb2); (try clear hk); (try clear hi); obtain ⟨hcz11_0, hcz11_1, hcz11_2, hcz11_3, hcz11_4⟩ := zd5 BK197; obtain ⟨hfz11_0, hfz11_1, hfz11_2, hfz11_3, hfz11_4⟩ := zn5 BK197))
  go_meet
  case rel => exact ⟨_, (decide ((l1.length : Int) > (l0_2.length : Int))), zi, H', ⟨by first | omega | exact Nat.le_refl _⟩, ⟨zh BK197⟩, ⟨zh BK198⟩, ⟨zs2 HB GE197 GE198⟩⟩
 case rest =>
  clear HC3
  try clear c1
  try clear c2
  try clear p2
  try clear c3
  try clear c7
  try clear c8
  try clear c12
  try clear hcz11_0 hcz11_1 hcz11_2 hcz11_3 hcz11_4
  try clear hcz13_0 hcz13_1 hcz13_2 hcz13_3 hcz13_4
  try clear hcz9_0 hcz9_1 hcz9_2 hcz9_3 hcz9_4
  try clear hfz11_0 hfz11_1 hfz11_2 hfz11_3 hfz11_4
  try clear hfz13_0 hfz13_1 hfz13_2 hfz13_3 hfz13_4
  try clear hfz9_0 hfz9_1 hfz9_2 hfz9_3 hfz9_4
  obtain ⟨kq, x18_2, rfl, HA, HJ2, BK197, BK198, HB⟩ := hcut
  cases kq with
  | zero => exact absurd HA.out (by simp [spec_FlyNext.j0])
  | succ kj2 =>
   have H := HA.out
   clear HA
   simp only [spec_FlyNext.j0] at H
   by_cases c15 : x18_2 = true
   ·subst c15
    have H1 : (some (0, 0, false)) = some (r1, r2, r3) := by rw [if_pos rfl] at H; exact H
    clear H
    have H := H1
    clear H1
    simp only [Option.some.injEq, Prod.mk.injEq] at H
    obtain ⟨rfl, rfl, rfl⟩ := H
    have hnb16 := NB198_197.out
    have hnc16 := NB197_198.out
    obtain ⟨hcz17_0, hcz17_1⟩ := zd2 BK198
    obtain ⟨hfz17_0, hfz17_1⟩ := zn2 BK198
    go_wp2
    refine bodyPost_ret (results_ct rfl _ _ gb198 46 #[.int .i64 0, .int .i64 0] (0, 0) _ rfl ?hz Try.underlying46 rfl (by kernel_rfl)) rfl ?_; (case hz => exact zpb BK198)
    exact ⟨ze, zs2 HB GE197 GE198⟩
   replace c15 := Bool.eq_false_iff.mpr c15
   subst c15
   have H1 : ((spec_l26Held.f kj2 a0_0 a0_1 l0_2 a0_3 a0_4 l1).bind fun bt200 => ((spec_l24Spans.f kj2 bt200.1 bt200.2.1 bt200.2.2.1 bt200.2.2.2.1 bt200.2.2.2.2).bind fun bt207 => (if bt207.2 = true then (if 0 ≤ (l1.length : Int) then (if (l1.length : Int) < (bt207.1.length : Int) then (some ((rd_T46 bt207.1 (l1.length : Int)).f0, (rd_T46 bt207.1 (l1.length : Int)).f1, true)) else (none)) else (none)) else (some (0, 0, false))))) = some (r1, r2, r3) := by rw [if_neg (show ¬ (false = true) by decide)] at H; exact H
   clear H
   have H := H1
   clear H1
   replace H := Option.bind_eq_some_iff.mp H
   obtain ⟨⟨t200, t201, t202, t205, t206⟩, A180, H⟩ := H
   replace H : ((spec_l24Spans.f kj2 t200 t201 t202 t205 t206).bind fun bt207 => (if bt207.2 = true then (if 0 ≤ (l1.length : Int) then (if (l1.length : Int) < (bt207.1.length : Int) then (some ((rd_T46 bt207.1 (l1.length : Int)).f0, (rd_T46 bt207.1 (l1.length : Int)).f1, true)) else (none)) else (none)) else (some (0, 0, false)))) = some (r1, r2, r3) := H
   have A18 := zA A180
   clear A180
   replace H := Option.bind_eq_some_iff.mp H
   obtain ⟨⟨t207, t210⟩, A190, H⟩ := H
   replace H : (if t210 = true then (if 0 ≤ (l1.length : Int) then (if (l1.length : Int) < (t207.length : Int) then (some ((rd_T46 t207 (l1.length : Int)).f0, (rd_T46 t207 (l1.length : Int)).f1, true)) else (none)) else (none)) else (some (0, 0, false))) = some (r1, r2, r3) := H
   have A19 := zA A190
   clear A190
   by_cases c20 : t210 = true
   rotate_left
   ·replace c20 := Bool.eq_false_iff.mpr c20
    subst c20
    have H1 : (some (0, 0, false)) = some (r1, r2, r3) := by rw [if_neg (show ¬ (false = true) by decide)] at H; exact H
    clear H
    have H := H1
    clear H1
    simp only [Option.some.injEq, Prod.mk.injEq] at H
    obtain ⟨rfl, rfl, rfl⟩ := H
    have hnb30 := NB197_198.out
    have hnc30 := NB198_197.out
    obtain ⟨hcz31_0, hcz31_1, hcz31_2, hcz31_3, hcz31_4⟩ := zd5 BK197
    obtain ⟨hfz31_0, hfz31_1, hfz31_2, hfz31_3, hfz31_4⟩ := zn5 BK197
    go_wp2_with (first | ((with_reducible refine gate_callee (f := 66) rfl ?_); refine zgl (N := some 23) Try.func66 #[.agg #[.int .i64 a0_0, .int .i64 a0_1, .slice A0_2 l0_2.length c0_2, .int .i64 a0_3, .int .i64 a0_4], .slice A1 l1.length c1] ?_; (with_reducible refine (spec_l26Held.calls kj2 a0_0 a0_1 _ _ l0_2 a0_3 a0_4 _ _ l1 t200 t201 t202 t205 t206 _ ?side1 ?side2 ?side3 ?side4 A18.out).mono ?_); (case side1 => exact zC HR0_2 HB); (case side2 => exact HC0_2.out); (case side3 => exact zC HR1 HB); (case side4 => exact HC1.out); rintro e w32 ⟨v203, rfl, ho0, hb⟩; refine ⟨_, rfl, ?_⟩; have HO204 := zA (Kd.R_lower ho0 (below_size (zs2 HB GE197 GE198))); replace BK197 := zb BK197 hb; replace BK198 := zb BK198 hb; replace HB := zE (zs2 HB GE197 GE198) hb; (try clear hb); (try clear hb2); (try clear hk); (try clear hi); (try clear ho0); obtain ⟨Ao33, co33, eo33⟩ := Kd.R_slice HO204.out; subst eo33) | ((with_reducible refine gate_callee (f := 65) rfl ?_); refine zgl (N := some 24) Try.func65 #[.agg #[.int .i64 t200, .int .i64 t201, .slice Ao33 t202.length co33, .int .i64 t205, .int .i64 t206]] ?_; (with_reducible refine (spec_l24Spans.calls kj2 t200 t201 _ _ t202 t205 t206 t207 false _ ?side1 ?side2 A19.out).mono ?_); (case side1 => repeat (first | exact (Kd.R_reads' HO204.out).2.2 | (with_reducible refine Kd.C_alloc ?_ _) | (with_reducible refine Kd.C_drewN ?_ _) | (with_reducible refine Kd.C_drew ?_))); (case side2 => exact (Kd.R_reads' HO204.out).2.1); rintro e w34 ⟨v208, rfl, ho0, hb⟩; refine ⟨_, rfl, ?_⟩; have HO209 := zA (Kd.R_lower (Kd.R_newB ho0 (g := gb198) (o := .cells #[.int .i64 0, .int .i64 0] 46 (0, 0)) (zh BK198)) (below_size (zs2 HB GE197 GE198))); replace HO204 := zA (Kd.R_below (zr HO204) hb); replace BK197 := zb BK197 hb; replace BK198 := zb BK198 hb; replace HB := zE (zs2 HB GE197 GE198) hb; (try clear hb); (try clear hb2); (try clear hk); (try clear hi); (try clear ho0); obtain ⟨hcz35_0, hcz35_1⟩ := zd2 BK198; obtain ⟨hfz35_0, hfz35_1⟩ := zn2 BK198))
    refine bodyPost_ret (results_ct rfl _ _ gb198 46 #[.int .i64 0, .int .i64 0] (0, 0) _ rfl ?hz Try.underlying46 rfl (by kernel_rfl)) rfl ?_; (case hz => exact zpb BK198)
    exact ⟨ze, zs2 HB GE197 GE198⟩
   subst c20
   have H1 : (if 0 ≤ (l1.length : Int) then (if (l1.length : Int) < (t207.length : Int) then (some ((rd_T46 t207 (l1.length : Int)).f0, (rd_T46 t207 (l1.length : Int)).f1, true)) else (none)) else (none)) = some (r1, r2, r3) := by rw [if_pos rfl] at H; exact H
   clear H
   have H := H1
   clear H1
   by_cases c21 : 0 ≤ (l1.length : Int)
   rotate_left
   ·rw [if_neg c21] at H
    exact absurd H (by simp)
   rw [if_pos c21] at H
   have c21b0 : decide (0 ≤ (l1.length : Int)) = true := decide_eq_true c21
   have c21b1 : decide (0 ≤ l1.length) = true := decide_eq_true (by omega)
   clear c21
   by_cases c22 : (l1.length : Int) < (t207.length : Int)
   rotate_left
   ·rw [if_neg c22] at H
    exact absurd H (by simp)
   rw [if_pos c22] at H
   have c22b0 : decide ((l1.length : Int) < (t207.length : Int)) = true := decide_eq_true c22
   have c22b1 : decide (l1.length < t207.length) = true := decide_eq_true (Int.ofNat_lt.mp c22)
   clear c22
   simp only [Option.some.injEq, Prod.mk.injEq] at H
   obtain ⟨rfl, rfl, rfl⟩ := H
   have hnb23 := NB197_198.out
   have hnc23 := NB198_197.out
   obtain ⟨hcz24_0, hcz24_1, hcz24_2, hcz24_3, hcz24_4⟩ := zd5 BK197
   obtain ⟨hfz24_0, hfz24_1, hfz24_2, hfz24_3, hfz24_4⟩ := zn5 BK197
   go_wp2_with (first | ((with_reducible refine gate_callee (f := 66) rfl ?_); refine zgl (N := some 23) Try.func66 #[.agg #[.int .i64 a0_0, .int .i64 a0_1, .slice A0_2 l0_2.length c0_2, .int .i64 a0_3, .int .i64 a0_4], .slice A1 l1.length c1] ?_; (with_reducible refine (spec_l26Held.calls kj2 a0_0 a0_1 _ _ l0_2 a0_3 a0_4 _ _ l1 t200 t201 t202 t205 t206 _ ?side1 ?side2 ?side3 ?side4 A18.out).mono ?_); (case side1 => exact zC HR0_2 HB); (case side2 => exact HC0_2.out); (case side3 => exact zC HR1 HB); (case side4 => exact HC1.out); rintro e w25 ⟨v203, rfl, ho0, hb⟩; refine ⟨_, rfl, ?_⟩; have HO204 := zA (Kd.R_lower ho0 (below_size (zs2 HB GE197 GE198))); replace BK197 := zb BK197 hb; replace BK198 := zb BK198 hb; replace HB := zE (zs2 HB GE197 GE198) hb; (try clear hb); (try clear hb2); (try clear hk); (try clear hi); (try clear ho0); obtain ⟨Ao26, co26, eo26⟩ := Kd.R_slice HO204.out; subst eo26) | ((with_reducible refine gate_callee (f := 65) rfl ?_); refine zgl (N := some 24) Try.func65 #[.agg #[.int .i64 t200, .int .i64 t201, .slice Ao26 t202.length co26, .int .i64 t205, .int .i64 t206]] ?_; (with_reducible refine (spec_l24Spans.calls kj2 t200 t201 _ _ t202 t205 t206 t207 true _ ?side1 ?side2 A19.out).mono ?_); (case side1 => repeat (first | exact (Kd.R_reads' HO204.out).2.2 | (with_reducible refine Kd.C_alloc ?_ _) | (with_reducible refine Kd.C_drewN ?_ _) | (with_reducible refine Kd.C_drew ?_))); (case side2 => exact (Kd.R_reads' HO204.out).2.1); rintro e w27 ⟨v208, rfl, ho0, hb⟩; refine ⟨_, rfl, ?_⟩; have HO209 := zA (Kd.R_lower (Kd.R_newB ho0 (g := gb198) (o := .cells #[.int .i64 0, .int .i64 0] 46 (0, 0)) (zh BK198)) (below_size (zs2 HB GE197 GE198))); replace HO204 := zA (Kd.R_below (zr HO204) hb); replace BK197 := zb BK197 hb; replace BK198 := zb BK198 hb; replace HB := zE (zs2 HB GE197 GE198) hb; (try clear hb); (try clear hb2); (try clear hk); (try clear hi); (try clear ho0); obtain ⟨Ao28, co28, eo28⟩ := Kd.R_slice HO209.out; subst eo28; have p211 : 0 ≤ ((l1.length : Int) : Int) := za; have q211 : (l1.length : Int) < (t207.length : Int) := za; obtain ⟨ad211, e211, hx211_0, hx211_1⟩ := at_T46 (Kd.R_reads' HO209.out).2.2 (l1.length : Int) p211 q211; cases e211; (try simp only [Go.IntWalk.toNatUp] at hx211_0); (try simp only [Go.IntWalk.toNatUp] at hx211_1); replace p211 := eq_true p211; replace q211 := eq_true q211; obtain ⟨hcz29_0, hcz29_1⟩ := zd2 BK198; obtain ⟨hfz29_0, hfz29_1⟩ := zn2 BK198))
   refine bodyPost_ret (results_ct rfl _ _ gb198 46 #[.int .i64 ((rd_T46 t207 (l1.length : Int)).f0), .int .i64 ((rd_T46 t207 (l1.length : Int)).f1)] (0, 0) _ rfl ?hz Try.underlying46 rfl (by kernel_rfl)) rfl ?_; (case hz => exact zpb BK198)
   exact ⟨ze, zs2 HB GE197 GE198⟩
end Go.Proofs.Ytidenmcoilmbcaa.QFnExactFlyGo
