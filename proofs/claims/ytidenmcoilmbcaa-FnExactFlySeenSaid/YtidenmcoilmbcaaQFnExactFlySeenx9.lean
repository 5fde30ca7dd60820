/- The walk of what the law FnExactFlySeen reaches: laid by a program of this session (ownprint.py). -/
import Derived.Test.YtidenmcoilmbcaaQFnExactFlySeenx0
import Derived.Test.YtidenmcoilmbcaaQFnExactFlySeenx3
import Derived.Test.YtidenmcoilmbcaaQFnExactFlySeenx5
import Derived.Test.YtidenmcoilmbcaaQFnExactFlySeenx6
import Derived.Test.YtidenmcoilmbcaaQFnExactFlySeenx7
import Derived.Test.YtidenmcoilmbcaaQFnExactFlySeenx8
namespace Go.Proofs.Ytidenmcoilmbcaa.QFnExactFlySeen
open Go.RowKit Go.Proofs.YtidenmcoilmbcaaW.PrintWords Go.Proofs.YtidenmcoilmbcaaW.PrintLast Go.Proofs.YtidenmcoilmbcaaW.PrintMore Go.Proofs.Ytidenmcoilmbcaa.Z
attribute [local go_sem] max2_int min2_int max_two min_two max_three min_three max_four min_four zdn   -- for this text's walks alone
set_option linter.unusedVariables false
set_option linter.unusedSimpArgs false
def spec_FlySeen.j0 : Nat → Int → Int → Bool → Int → Int → List (S88) → Int → Int → Option (Int × Int × (List (S88)) × Int × Int × Bool)
 | 0, _, _, _, _, _, _, _, _ => none
 | k + 1, x1, x2, x27, x248000, x248001, x248002, x248003, x248004 => if x27 = true then (some (0, 0, ([] : List (S88)), 0, 0, false)) else ((spec_l24Spans.f k x248000 x248001 x248002 x248003 x248004).bind fun bt252 => (if bt252.2 = true then ((spec_l27Tail.f x248000 x248001 x248002 x248003 x248004 x1).bind fun bt256 => (if 0 ≤ x1 then (if x1 < (bt252.1.length : Int) then (if 0 < (bt256.2.2.1.length : Int) then ((some (bt256.2.2.1.set (0 : Int).toNat (⟨(rd_T88 bt256.2.2.1 0).f0, (rd_T88 bt256.2.2.1 0).f1, (rd_T88 bt256.2.2.1 0).f2, (rd_T88 bt256.2.2.1 0).f3, (rd_T46 bt252.1 x1).f0, (rd_T88 bt256.2.2.1 0).f5, (rd_T88 bt256.2.2.1 0).f6⟩ : S88) : List (S88))).bind fun y265 => ((spec_l21Min.f ((rd_T46 bt252.1 x1).f1) x2).bind fun t267 => ((spec_l27After.f bt256.1 bt256.2.1 (y265.set (0 : Int).toNat (⟨(rd_T88 y265 0).f0, (rd_T88 y265 0).f1, (rd_T88 y265 0).f2, (rd_T88 y265 0).f3, (rd_T88 y265 0).f4, t267, (rd_T88 y265 0).f6⟩ : S88)) bt256.2.2.2.1 bt256.2.2.2.2 x2).bind fun bt269 => ((spec_l27Can.f k bt269.1 bt269.2.1 bt269.2.2.1 bt269.2.2.2.1 bt269.2.2.2.2).bind fun bt276 => (some (bt276.1, bt276.2.1, bt276.2.2.1, bt276.2.2.2.1, bt276.2.2.2.2.1, bt276.2.2.2.2.2)))))) else (none)) else (none)) else (none))) else (some (0, 0, ([] : List (S88)), 0, 0, false))))
def spec_FlySeen.f (k : Nat) (a0_0 : Int) (a0_1 : Int) (l0_2 : List (S88)) (a0_3 : Int) (a0_4 : Int) (a1 : Int) (a2 : Int) : Option (Int × Int × (List (S88)) × Int × Int × Bool) := (spec_FlyPathOk.f k a0_0 a0_1 l0_2 a0_3 a0_4).bind fun t249 => (if t249 = true then ((spec_l21In.f a1 0 (wrap64 ((l0_2.length : Int) - 1))).bind fun t250 => (if t250 = true then ((spec_l21In.f a2 0 10000).bind fun t251 => (spec_FlySeen.j0 k a1 a2 (!t251) a0_0 a0_1 l0_2 a0_3 a0_4)) else (spec_FlySeen.j0 k a1 a2 true a0_0 a0_1 l0_2 a0_3 a0_4))) else (spec_FlySeen.j0 k a1 a2 true a0_0 a0_1 l0_2 a0_3 a0_4))
def spec_FlySeen.T7 : Bool × List (List Nat × List Nat) := (true, [([], []), ([0], [0]), ([], []), ([], []), ([2, 3], [2, 3]), ([4], [4]), ([5], [5]), ([1, 0, 1, 2, 3, 4, 5, 6], [1]), ([7, 0, 1, 2, 3, 4, 5, 6], [7]), ([8, 6, 0, 1, 2, 3, 4, 5, 6], [6, 8])])
def spec_FlySeen.B7 : List Nat := [0, 1, 0, 0, 12, 28, 60, 127, 255, 511]
theorem spec_FlySeen.tab7 : rtab .any (opsOf Try.f50 7) = spec_FlySeen.T7 := by kernel_rfl
theorem spec_FlySeen.bits7 : waitsOk spec_FlySeen.T7.2 spec_FlySeen.B7 = true := by kernel_rfl
def spec_FlySeen.T8 : Bool × List (List Nat × List Nat) := (true, [([], []), ([0], [0]), ([], []), ([], []), ([2, 3], [2, 3]), ([4], [4]), ([5], [5]), ([], []), ([6, 7], [6, 7]), ([1, 0, 1, 2, 3, 4, 5, 6, 7, 8], [1]), ([9, 0, 1, 2, 3, 4, 5, 6, 7, 8], [9]), ([10, 8, 8, 0, 1, 2, 3, 4, 5, 6, 7, 8], [8, 10])])
def spec_FlySeen.B8 : List Nat := [0, 1, 0, 0, 12, 28, 60, 0, 252, 511, 1023, 2047]
theorem spec_FlySeen.tab8 : rtab .any (opsOf Try.f50 8) = spec_FlySeen.T8 := by kernel_rfl
theorem spec_FlySeen.bits8 : waitsOk spec_FlySeen.T8.2 spec_FlySeen.B8 = true := by kernel_rfl
set_option maxHeartbeats 8000000 in
set_option maxRecDepth 100000 in
theorem spec_FlySeen.calls (k : Nat) (a0_0 : Int) (a0_1 : Int) (A0_2 : Option Addr) (c0_2 : Nat) (l0_2 : List (S88)) (a0_3 : Int) (a0_4 : Int) (a1 : Int) (a2 : Int) (r1 : Int) (r2 : Int) (r3 : List (S88)) (r4 : Int) (r5 : Int) (r6 : Bool) (w : World) (hr0_2 : Kd.C k88 w A0_2 l0_2.length l0_2) (hc0_2 : l0_2.length ≤ c0_2) (h : spec_FlySeen.f k a0_0 a0_1 l0_2 a0_3 a0_4 a1 a2 = some (r1, r2, r3, r4, r5, r6)) :
 Calls Try.prog 50 #[.agg #[.int .i64 a0_0, .int .i64 a0_1, .slice A0_2 l0_2.length c0_2, .int .i64 a0_3, .int .i64 a0_4], .int .i64 a1, .int .i64 a2] w fun e w' => ∃ v2_ : Value, e = .returned (.tuple #[.agg #[.int .i64 r1, .int .i64 r2, v2_, .int .i64 r4, .int .i64 r5], .bool r6]) ∧ Kd.R k88 88 w' w.heap.size (fun _ => True) v2_ r3 ∧ Below w.heap.size w w' := by
 have hu34 := Try.underlying34
 have HR0_2 := Aside0.mk hr0_2
 have HC0_2 := Aside0.mk hc0_2
 clear hr0_2 hc0_2
 have HB := Aside0.mk (Below.refl w.heap.size w)
 have H : ((spec_FlyPathOk.f k a0_0 a0_1 l0_2 a0_3 a0_4).bind fun t249 => (if t249 = true then ((spec_l21In.f a1 0 (wrap64 ((l0_2.length : Int) - 1))).bind fun t250 => (if t250 = true then ((spec_l21In.f a2 0 10000).bind fun t251 => (spec_FlySeen.j0 k a1 a2 (!t251) a0_0 a0_1 l0_2 a0_3 a0_4)) else (spec_FlySeen.j0 k a1 a2 true a0_0 a0_1 l0_2 a0_3 a0_4))) else (spec_FlySeen.j0 k a1 a2 true a0_0 a0_1 l0_2 a0_3 a0_4))) = some (r1, r2, r3, r4, r5, r6) := h
 clear h
 have HC4 := Aside0.mk H
 clear H
 go_enter Try.func50, Try.ntmps50
 go_upto_region 1 with (first | ((with_reducible refine gate_dst (N := 3) rfl ?_); (try (refine gate_guard (by rfl) ?_; dsimp only)); refine zbx 3 #[.int .i64 a0_0, .int .i64 a0_1, .slice A0_2 l0_2.length c0_2, .int .i64 a0_3, .int .i64 a0_4] 34 ?_; intro gb247 hg w5 hbox hb; have BK247 := zA hbox; have GW247 := zgs hg (zs0 HB); have GE247 := zgs hg (zs0 HB); replace HB := zE (zs0 HB) hb; clear hb hbox hg) | ((with_reducible refine gate_dst (N := 6) rfl ?_); (try (refine gate_guard (by rfl) ?_; dsimp only)); refine zbx 6 #[.int .i64 0, .int .i64 0, .slice none 0 0, .int .i64 0, .int .i64 0] 34 ?_; intro gb248 hg w6 hbox hb; have BK248 := zA hbox; have GW248 := zgs hg (zs1 HB GE247); have GE248 := zgs hg (zs1 HB GE247); have NB247_248 := zne hg BK247; have NB248_247 := znf hg BK247; replace BK247 := zb BK247 hb; replace HB := zE (zs1 HB GE247) hb; clear hb hbox hg))
 (try simp only [Act.put, List.setIfInBounds_toArray, List.set_cons_zero, List.set_cons_succ])
 go_cut [27] (fun v27 wc => ∃ (kq : Nat) (x27_3 : Bool), v27 = .bool x27_3 ∧ Aside0 (spec_FlySeen.j0 kq a1 a2 x27_3 a0_0 a0_1 l0_2 a0_3 a0_4 = some (r1, r2, r3, r4, r5, r6)) ∧ Aside0 (kq ≤ k) ∧ Aside0 (wc.heap[gb247]? = some (.cells #[.int .i64 a0_0, .int .i64 a0_1, (.slice A0_2 l0_2.length c0_2), .int .i64 a0_3, .int .i64 a0_4] 34 (0, 0))) ∧ Aside0 (wc.heap[gb248]? = some (.cells #[.int .i64 0, .int .i64 0, (.slice none 0 0), .int .i64 0, .int .i64 0] 34 (0, 0))) ∧ Aside0 (Below w.heap.size w wc))
 case first =>
  have H := HC4.out
  clear HC4
  replace H := zbd H; obtain ⟨t249, A7, H⟩ := H
  by_cases c8 : t249 = true
  rotate_left
  ·replace c8 := Bool.eq_false_iff.mpr c8
   subst c8
   have H1 : (spec_FlySeen.j0 k a1 a2 true a0_0 a0_1 l0_2 a0_3 a0_4) = some (r1, r2, r3, r4, r5, r6) := by rw [if_neg (show ¬ (false = true) by decide)] at H; exact H
   clear H
   have H := H1
   clear H1
   have H' := Aside0.mk H
   clear H
   have hnb20 := NB247_248.out
   have hnc20 := NB248_247.out
   obtain ⟨hcz21_0, hcz21_1, hcz21_2, hcz21_3, hcz21_4⟩ := zd5 BK247
   obtain ⟨hfz21_0, hfz21_1, hfz21_2, hfz21_3, hfz21_4⟩ := zn5 BK247
   go_wp2_with (first | ((with_reducible refine gate_callee (f := 32) rfl ?_); refine zgl (N := some 12) Try.func32 #[.agg #[.int .i64 a0_0, .int .i64 a0_1, .slice A0_2 l0_2.length c0_2, .int .i64 a0_3, .int .i64 a0_4]] ?_; (with_reducible refine (spec_FlyPathOk.calls k a0_0 a0_1 _ _ l0_2 a0_3 a0_4 false _ ?side1 ?side2 A7.out).mono ?_); (case side1 => exact zC HR0_2 HB); (case side2 => exact HC0_2.out); rintro e w22 ⟨rfl, hb⟩; refine ⟨_, rfl, ?_⟩; replace BK247 := zb BK247 hb; replace BK248 := zb BK248 hb; replace HB := zE (zs2 HB GE247 GE248) hb; (try clear hb); (try clear hb2); (try clear hk); (try clear hi)))
   go_meet
   case rel => exact ⟨_, (true), zi, H', ⟨by first | omega | exact Nat.le_refl _⟩, ⟨zh BK247⟩, ⟨zh BK248⟩, ⟨zs2 HB GE247 GE248⟩⟩
  subst c8
  have H1 : ((spec_l21In.f a1 0 (wrap64 ((l0_2.length : Int) - 1))).bind fun t250 => (if t250 = true then ((spec_l21In.f a2 0 10000).bind fun t251 => (spec_FlySeen.j0 k a1 a2 (!t251) a0_0 a0_1 l0_2 a0_3 a0_4)) else (spec_FlySeen.j0 k a1 a2 true a0_0 a0_1 l0_2 a0_3 a0_4))) = some (r1, r2, r3, r4, r5, r6) := by rw [if_pos rfl] at H; exact H
  clear H
  have H := H1
  clear H1
  replace H := zbd H; obtain ⟨t250, A9, H⟩ := H
  by_cases c10 : t250 = true
  rotate_left
  ·replace c10 := Bool.eq_false_iff.mpr c10
   subst c10
   have H1 : (spec_FlySeen.j0 k a1 a2 true a0_0 a0_1 l0_2 a0_3 a0_4) = some (r1, r2, r3, r4, r5, r6) := by rw [if_neg (show ¬ (false = true) by decide)] at H; exact H
   clear H
   have H := H1
   clear H1
   have H' := Aside0.mk H
   clear H
   have hnb16 := NB247_248.out
   have hnc16 := NB248_247.out
   obtain ⟨hcz17_0, hcz17_1, hcz17_2, hcz17_3, hcz17_4⟩ := zd5 BK247
   obtain ⟨hfz17_0, hfz17_1, hfz17_2, hfz17_3, hfz17_4⟩ := zn5 BK247
   go_wp2_with (first | ((with_reducible refine gate_callee (f := 32) rfl ?_); refine zgl (N := some 12) Try.func32 #[.agg #[.int .i64 a0_0, .int .i64 a0_1, .slice A0_2 l0_2.length c0_2, .int .i64 a0_3, .int .i64 a0_4]] ?_; (with_reducible refine (spec_FlyPathOk.calls k a0_0 a0_1 _ _ l0_2 a0_3 a0_4 true _ ?side1 ?side2 A7.out).mono ?_); (case side1 => exact zC HR0_2 HB); (case side2 => exact HC0_2.out); rintro e w18 ⟨rfl, hb⟩; refine ⟨_, rfl, ?_⟩; replace BK247 := zb BK247 hb; replace BK248 := zb BK248 hb; replace HB := zE (zs2 HB GE247 GE248) hb; (try clear hb); (try clear hb2); (try clear hk); (try clear hi); obtain ⟨hcz19_0, hcz19_1, hcz19_2, hcz19_3, hcz19_4⟩ := zd5 BK247; obtain ⟨hfz19_0, hfz19_1, hfz19_2, hfz19_3, hfz19_4⟩ := zn5 BK247) | (go_at_call 70; (with_reducible refine (spec_l21In.calls a1 0 (wrap64 ((l0_2.length : Int) - 1)) false _ A9.out).mono ?_); rintro e w' ⟨rfl, ⟨nd, rfl⟩⟩))
   go_meet
   case rel => exact ⟨_, (true), zi, H', ⟨by first | omega | exact Nat.le_refl _⟩, ⟨zh BK247⟩, ⟨zh BK248⟩, ⟨zs2 HB GE247 GE248⟩⟩
  subst c10
  have H1 : ((spec_l21In.f a2 0 10000).bind fun t251 => (spec_FlySeen.j0 k a1 a2 (!t251) a0_0 a0_1 l0_2 a0_3 a0_4)) = some (r1, r2, r3, r4, r5, r6) := by rw [if_pos rfl] at H; exact H
  clear H
  have H := H1
  clear H1
  replace H := zbd H; obtain ⟨t251, A11, H⟩ := H
  have H' := Aside0.mk H
  clear H
  have hnb12 := NB247_248.out
  have hnc12 := NB248_247.out
  obtain ⟨hcz13_0, hcz13_1, hcz13_2, hcz13_3, hcz13_4⟩ := zd5 BK247
  obtain ⟨hfz13_0, hfz13_1, hfz13_2, hfz13_3, hfz13_4⟩ := zn5 BK247
  go_wp2_with (first | ((with_reducible refine gate_callee (f := 32) rfl ?_); refine zgl (N := some 12) Try.func32 #[.agg #[.int .i64 a0_0, .int .i64 a0_1, .slice A0_2 l0_2.length c0_2, .int .i64 a0_3, .int .i64 a0_4]] ?_; (with_reducible refine (spec_FlyPathOk.calls k a0_0 a0_1 _ _ l0_2 a0_3 a0_4 true _ ?side1 ?side2 A7.out).mono ?_); (case side1 => exact zC HR0_2 HB); (case side2 => exact HC0_2.out); rintro e w14 ⟨rfl, hb⟩; refine ⟨_, rfl, ?_⟩; replace BK247 := zb BK247 hb; replace BK248 := zb BK248 hb; replace HB := zE (zs2 HB GE247 GE248) hb; (try clear hb); (try clear hb2); (try clear hk); (try clear hi); obtain ⟨hcz15_0, hcz15_1, hcz15_2, hcz15_3, hcz15_4⟩ := zd5 BK247; obtain ⟨hfz15_0, hfz15_1, hfz15_2, hfz15_3, hfz15_4⟩ := zn5 BK247) | (go_at_call 70; (with_reducible refine (spec_l21In.calls a1 0 (wrap64 ((l0_2.length : Int) - 1)) true _ A9.out).mono ?_); rintro e w' ⟨rfl, ⟨nd, rfl⟩⟩) | (go_at_call 70; (with_reducible refine (spec_l21In.calls a2 0 10000 t251 _ A11.out).mono ?_); rintro e w' ⟨rfl, ⟨nd, rfl⟩⟩))
  go_meet
  case rel => exact ⟨_, (!t251), zi, H', ⟨by first | omega | exact Nat.le_refl _⟩, ⟨zh BK247⟩, ⟨zh BK248⟩, ⟨zs2 HB GE247 GE248⟩⟩
 case rest =>
  clear HC4
  try clear c1
  try clear c2
  try clear p2
  try clear c3
  try clear c5
  try clear p6
  try clear c8
  try clear c10
  try clear c12
  try clear c16
  try clear c20
  try clear hcz13_0 hcz13_1 hcz13_2 hcz13_3 hcz13_4
  try clear hcz15_0 hcz15_1 hcz15_2 hcz15_3 hcz15_4
  try clear hcz17_0 hcz17_1 hcz17_2 hcz17_3 hcz17_4
  try clear hcz19_0 hcz19_1 hcz19_2 hcz19_3 hcz19_4
  try clear hcz21_0 hcz21_1 hcz21_2 hcz21_3 hcz21_4
  try clear hfz13_0 hfz13_1 hfz13_2 hfz13_3 hfz13_4
  try clear hfz15_0 hfz15_1 hfz15_2 hfz15_3 hfz15_4
  try clear hfz17_0 hfz17_1 hfz17_2 hfz17_3 hfz17_4
  try clear hfz19_0 hfz19_1 hfz19_2 hfz19_3 hfz19_4
  try clear hfz21_0 hfz21_1 hfz21_2 hfz21_3 hfz21_4
  obtain ⟨kq, x27_3, rfl, HA, HJ3, BK247, BK248, HB⟩ := hcut
  cases kq with
  | zero => exact absurd HA.out (by simp [spec_FlySeen.j0])
  | succ kj3 =>
   have H := HA.out
   clear HA
   simp only [spec_FlySeen.j0] at H
   by_cases c23 : x27_3 = true
   ·subst c23
    have H1 : (some (0, 0, ([] : List (S88)), 0, 0, false)) = some (r1, r2, r3, r4, r5, r6) := by rw [if_pos rfl] at H; exact H
    clear H
    have H := H1
    clear H1
    simp only [Option.some.injEq, Prod.mk.injEq] at H
    obtain ⟨rfl, rfl, rfl, rfl, rfl, rfl⟩ := H
    have hnb24 := NB248_247.out
    have hnc24 := NB247_248.out
    obtain ⟨hcz25_0, hcz25_1, hcz25_2, hcz25_3, hcz25_4⟩ := zd5 BK248
    obtain ⟨hfz25_0, hfz25_1, hfz25_2, hfz25_3, hfz25_4⟩ := zn5 BK248
    go_wp2
    refine bodyPost_ret (results_ct rfl _ _ gb248 34 #[.int .i64 0, .int .i64 0, .slice none 0 0, .int .i64 0, .int .i64 0] (0, 0) _ rfl ?hz Try.underlying34 rfl (by kernel_rfl)) rfl ?_; (case hz => exact zpb BK248)
    exact ⟨_, ze, by first | exact Kd.R_nil _ _ _ _ _ | exact Kd.N_nil _ _ _ _ _ | exact Kd.V_nil _ _ _ _ _ | exact Kd.Q_nil _ _ _ _ _ | exact Kd.S_nil _ _ _ _ _, zs2 HB GE247 GE248⟩
   replace c23 := Bool.eq_false_iff.mpr c23
   subst c23
   have H1 : ((spec_l24Spans.f kj3 a0_0 a0_1 l0_2 a0_3 a0_4).bind fun bt252 => (if bt252.2 = true then ((spec_l27Tail.f a0_0 a0_1 l0_2 a0_3 a0_4 a1).bind fun bt256 => (if 0 ≤ a1 then (if a1 < (bt252.1.length : Int) then (if 0 < (bt256.2.2.1.length : Int) then ((some (bt256.2.2.1.set (0 : Int).toNat (⟨(rd_T88 bt256.2.2.1 0).f0, (rd_T88 bt256.2.2.1 0).f1, (rd_T88 bt256.2.2.1 0).f2, (rd_T88 bt256.2.2.1 0).f3, (rd_T46 bt252.1 a1).f0, (rd_T88 bt256.2.2.1 0).f5, (rd_T88 bt256.2.2.1 0).f6⟩ : S88) : List (S88))).bind fun y265 => ((spec_l21Min.f ((rd_T46 bt252.1 a1).f1) a2).bind fun t267 => ((spec_l27After.f bt256.1 bt256.2.1 (y265.set (0 : Int).toNat (⟨(rd_T88 y265 0).f0, (rd_T88 y265 0).f1, (rd_T88 y265 0).f2, (rd_T88 y265 0).f3, (rd_T88 y265 0).f4, t267, (rd_T88 y265 0).f6⟩ : S88)) bt256.2.2.2.1 bt256.2.2.2.2 a2).bind fun bt269 => ((spec_l27Can.f kj3 bt269.1 bt269.2.1 bt269.2.2.1 bt269.2.2.2.1 bt269.2.2.2.2).bind fun bt276 => (some (bt276.1, bt276.2.1, bt276.2.2.1, bt276.2.2.2.1, bt276.2.2.2.2.1, bt276.2.2.2.2.2)))))) else (none)) else (none)) else (none))) else (some (0, 0, ([] : List (S88)), 0, 0, false)))) = some (r1, r2, r3, r4, r5, r6) := by rw [if_neg (show ¬ (false = true) by decide)] at H; exact H
   clear H
   have H := H1
   clear H1
   replace H := Option.bind_eq_some_iff.mp H
   obtain ⟨⟨t252, t255⟩, A260, H⟩ := H
   replace H : (if t255 = true then ((spec_l27Tail.f a0_0 a0_1 l0_2 a0_3 a0_4 a1).bind fun bt256 => (if 0 ≤ a1 then (if a1 < (t252.length : Int) then (if 0 < (bt256.2.2.1.length : Int) then ((some (bt256.2.2.1.set (0 : Int).toNat (⟨(rd_T88 bt256.2.2.1 0).f0, (rd_T88 bt256.2.2.1 0).f1, (rd_T88 bt256.2.2.1 0).f2, (rd_T88 bt256.2.2.1 0).f3, (rd_T46 t252 a1).f0, (rd_T88 bt256.2.2.1 0).f5, (rd_T88 bt256.2.2.1 0).f6⟩ : S88) : List (S88))).bind fun y265 => ((spec_l21Min.f ((rd_T46 t252 a1).f1) a2).bind fun t267 => ((spec_l27After.f bt256.1 bt256.2.1 (y265.set (0 : Int).toNat (⟨(rd_T88 y265 0).f0, (rd_T88 y265 0).f1, (rd_T88 y265 0).f2, (rd_T88 y265 0).f3, (rd_T88 y265 0).f4, t267, (rd_T88 y265 0).f6⟩ : S88)) bt256.2.2.2.1 bt256.2.2.2.2 a2).bind fun bt269 => ((spec_l27Can.f kj3 bt269.1 bt269.2.1 bt269.2.2.1 bt269.2.2.2.1 bt269.2.2.2.2).bind fun bt276 => (some (bt276.1, bt276.2.1, bt276.2.2.1, bt276.2.2.2.1, bt276.2.2.2.2.1, bt276.2.2.2.2.2)))))) else (none)) else (none)) else (none))) else (some (0, 0, ([] : List (S88)), 0, 0, false))) = some (r1, r2, r3, r4, r5, r6) := H
   have A26 := Aside0.mk A260
   clear A260
   by_cases c27 : t255 = true
   rotate_left
   ·replace c27 := Bool.eq_false_iff.mpr c27
    subst c27
    have H1 : (some (0, 0, ([] : List (S88)), 0, 0, false)) = some (r1, r2, r3, r4, r5, r6) := by rw [if_neg (show ¬ (false = true) by decide)] at H; exact H
    clear H
    have H := H1
    clear H1
    simp only [Option.some.injEq, Prod.mk.injEq] at H
    obtain ⟨rfl, rfl, rfl, rfl, rfl, rfl⟩ := H
    have hnb61 := NB247_248.out
    have hnc61 := NB248_247.out
    obtain ⟨hcz62_0, hcz62_1, hcz62_2, hcz62_3, hcz62_4⟩ := zd5 BK247
    obtain ⟨hfz62_0, hfz62_1, hfz62_2, hfz62_3, hfz62_4⟩ := zn5 BK247
    go_wp2_with (first | ((with_reducible refine gate_callee (f := 65) rfl ?_); refine zgl (N := some 31) Try.func65 #[.agg #[.int .i64 a0_0, .int .i64 a0_1, .slice A0_2 l0_2.length c0_2, .int .i64 a0_3, .int .i64 a0_4]] ?_; (with_reducible refine (spec_l24Spans.calls kj3 a0_0 a0_1 _ _ l0_2 a0_3 a0_4 t252 false _ ?side1 ?side2 A26.out).mono ?_); (case side1 => exact zC HR0_2 HB); (case side2 => exact HC0_2.out); rintro e w63 ⟨v253, rfl, ho0, hb⟩; refine ⟨_, rfl, ?_⟩; have HO254 := Aside0.mk (Kd.R_lower ho0 (below_size (zs2 HB GE247 GE248))); replace BK247 := zb BK247 hb; replace BK248 := zb BK248 hb; replace HB := zE (zs2 HB GE247 GE248) hb; (try clear hb); (try clear hb2); (try clear hk); (try clear hi); (try clear ho0); obtain ⟨hcz64_0, hcz64_1, hcz64_2, hcz64_3, hcz64_4⟩ := zd5 BK248; obtain ⟨hfz64_0, hfz64_1, hfz64_2, hfz64_3, hfz64_4⟩ := zn5 BK248))
    refine bodyPost_ret (results_ct rfl _ _ gb248 34 #[.int .i64 0, .int .i64 0, .slice none 0 0, .int .i64 0, .int .i64 0] (0, 0) _ rfl ?hz Try.underlying34 rfl (by kernel_rfl)) rfl ?_; (case hz => exact zpb BK248)
    exact ⟨_, ze, by first | exact Kd.R_nil _ _ _ _ _ | exact Kd.N_nil _ _ _ _ _ | exact Kd.V_nil _ _ _ _ _ | exact Kd.Q_nil _ _ _ _ _ | exact Kd.S_nil _ _ _ _ _, zs2 HB GE247 GE248⟩
   subst c27
   have H1 : ((spec_l27Tail.f a0_0 a0_1 l0_2 a0_3 a0_4 a1).bind fun bt256 => (if 0 ≤ a1 then (if a1 < (t252.length : Int) then (if 0 < (bt256.2.2.1.length : Int) then ((some (bt256.2.2.1.set (0 : Int).toNat (⟨(rd_T88 bt256.2.2.1 0).f0, (rd_T88 bt256.2.2.1 0).f1, (rd_T88 bt256.2.2.1 0).f2, (rd_T88 bt256.2.2.1 0).f3, (rd_T46 t252 a1).f0, (rd_T88 bt256.2.2.1 0).f5, (rd_T88 bt256.2.2.1 0).f6⟩ : S88) : List (S88))).bind fun y265 => ((spec_l21Min.f ((rd_T46 t252 a1).f1) a2).bind fun t267 => ((spec_l27After.f bt256.1 bt256.2.1 (y265.set (0 : Int).toNat (⟨(rd_T88 y265 0).f0, (rd_T88 y265 0).f1, (rd_T88 y265 0).f2, (rd_T88 y265 0).f3, (rd_T88 y265 0).f4, t267, (rd_T88 y265 0).f6⟩ : S88)) bt256.2.2.2.1 bt256.2.2.2.2 a2).bind fun bt269 => ((spec_l27Can.f kj3 bt269.1 bt269.2.1 bt269.2.2.1 bt269.2.2.2.1 bt269.2.2.2.2).bind fun bt276 => (some (bt276.1, bt276.2.1, bt276.2.2.1, bt276.2.2.2.1, bt276.2.2.2.2.1, bt276.2.2.2.2.2)))))) else (none)) else (none)) else (none))) = some (r1, r2, r3, r4, r5, r6) := by rw [if_pos rfl] at H; exact H
   clear H
   have H := H1
   clear H1
   replace H := Option.bind_eq_some_iff.mp H
   obtain ⟨⟨t256, t257, t258, t261, t262⟩, A280, H⟩ := H
   replace H : (if 0 ≤ a1 then (if a1 < (t252.length : Int) then (if 0 < (t258.length : Int) then ((some (t258.set (0 : Int).toNat (⟨(rd_T88 t258 0).f0, (rd_T88 t258 0).f1, (rd_T88 t258 0).f2, (rd_T88 t258 0).f3, (rd_T46 t252 a1).f0, (rd_T88 t258 0).f5, (rd_T88 t258 0).f6⟩ : S88) : List (S88))).bind fun y265 => ((spec_l21Min.f ((rd_T46 t252 a1).f1) a2).bind fun t267 => ((spec_l27After.f t256 t257 (y265.set (0 : Int).toNat (⟨(rd_T88 y265 0).f0, (rd_T88 y265 0).f1, (rd_T88 y265 0).f2, (rd_T88 y265 0).f3, (rd_T88 y265 0).f4, t267, (rd_T88 y265 0).f6⟩ : S88)) t261 t262 a2).bind fun bt269 => ((spec_l27Can.f kj3 bt269.1 bt269.2.1 bt269.2.2.1 bt269.2.2.2.1 bt269.2.2.2.2).bind fun bt276 => (some (bt276.1, bt276.2.1, bt276.2.2.1, bt276.2.2.2.1, bt276.2.2.2.2.1, bt276.2.2.2.2.2)))))) else (none)) else (none)) else (none)) = some (r1, r2, r3, r4, r5, r6) := H
   have A28 := Aside0.mk A280
   clear A280
   by_cases c29 : 0 ≤ a1
   rotate_left
   ·rw [if_neg c29] at H
    exact absurd H (by simp)
   rw [if_pos c29] at H
   have c29b0 : decide (0 ≤ a1) = true := decide_eq_true c29
   clear c29
   by_cases c30 : a1 < (t252.length : Int)
   rotate_left
   ·rw [if_neg c30] at H
    exact absurd H (by simp)
   rw [if_pos c30] at H
   have c30b0 : decide (a1 < (t252.length : Int)) = true := decide_eq_true c30
   clear c30
   by_cases c31 : 0 < (t258.length : Int)
   rotate_left
   ·rw [if_neg c31] at H
    exact absurd H (by simp)
   rw [if_pos c31] at H
   have c31b0 : decide (0 < (t258.length : Int)) = true := decide_eq_true c31
   have c31b1 : decide (0 < t258.length) = true := decide_eq_true (by omega)
   clear c31
   obtain ⟨y265, hy265⟩ : ∃ y_ : List (S88), y_ = (t258.set (0 : Int).toNat (⟨(rd_T88 t258 0).f0, (rd_T88 t258 0).f1, (rd_T88 t258 0).f2, (rd_T88 t258 0).f3, (rd_T46 t252 a1).f0, (rd_T88 t258 0).f5, (rd_T88 t258 0).f6⟩ : S88)) := ⟨_, rfl⟩
   replace H : ((spec_l21Min.f ((rd_T46 t252 a1).f1) a2).bind fun t267 => ((spec_l27After.f t256 t257 (y265.set (0 : Int).toNat (⟨(rd_T88 y265 0).f0, (rd_T88 y265 0).f1, (rd_T88 y265 0).f2, (rd_T88 y265 0).f3, (rd_T88 y265 0).f4, t267, (rd_T88 y265 0).f6⟩ : S88)) t261 t262 a2).bind fun bt269 => ((spec_l27Can.f kj3 bt269.1 bt269.2.1 bt269.2.2.1 bt269.2.2.2.1 bt269.2.2.2.2).bind fun bt276 => (some (bt276.1, bt276.2.1, bt276.2.2.1, bt276.2.2.2.1, bt276.2.2.2.2.1, bt276.2.2.2.2.2))))) = some (r1, r2, r3, r4, r5, r6) := by first | (rw [hy265]; with_reducible exact H) | (have H2_ := (Option.bind_some _ _).symm.trans H; rw [hy265]; with_reducible exact H2_) | (have H2_ := (Option.bind_some _ _).symm.trans H; with_reducible exact H2_) | with_reducible exact H | (rw [hy265]; exact H) | exact H
   have Ny265 := Aside0.mk hy265
   clear hy265
   replace H := zbd H; obtain ⟨t267, A33, H⟩ := H
   obtain ⟨y268, hy268⟩ : ∃ y_ : List (S88), y_ = (y265.set (0 : Int).toNat (⟨(rd_T88 y265 0).f0, (rd_T88 y265 0).f1, (rd_T88 y265 0).f2, (rd_T88 y265 0).f3, (rd_T88 y265 0).f4, t267, (rd_T88 y265 0).f6⟩ : S88)) := ⟨_, rfl⟩
   replace H : ((spec_l27After.f t256 t257 y268 t261 t262 a2).bind fun bt269 => ((spec_l27Can.f kj3 bt269.1 bt269.2.1 bt269.2.2.1 bt269.2.2.2.1 bt269.2.2.2.2).bind fun bt276 => (some (bt276.1, bt276.2.1, bt276.2.2.1, bt276.2.2.2.1, bt276.2.2.2.2.1, bt276.2.2.2.2.2)))) = some (r1, r2, r3, r4, r5, r6) := by first | (rw [hy268]; with_reducible exact H) | (have H2_ := (Option.bind_some _ _).symm.trans H; rw [hy268]; with_reducible exact H2_) | (have H2_ := (Option.bind_some _ _).symm.trans H; with_reducible exact H2_) | with_reducible exact H | (rw [hy268]; exact H) | exact H
   have Ny268 := Aside0.mk hy268
   clear hy268
   replace H := Option.bind_eq_some_iff.mp H
   obtain ⟨⟨t269, t270, t271, t274, t275⟩, A350, H⟩ := H
   replace H : ((spec_l27Can.f kj3 t269 t270 t271 t274 t275).bind fun bt276 => (some (bt276.1, bt276.2.1, bt276.2.2.1, bt276.2.2.2.1, bt276.2.2.2.2.1, bt276.2.2.2.2.2))) = some (r1, r2, r3, r4, r5, r6) := H
   have A35 := Aside0.mk A350
   clear A350
   replace H := Option.bind_eq_some_iff.mp H
   obtain ⟨⟨t276, t277, t278, t281, t282, t283⟩, A360, H⟩ := H
   replace H : (some (t276, t277, t278, t281, t282, t283)) = some (r1, r2, r3, r4, r5, r6) := H
   have A36 := Aside0.mk A360
   clear A360
   simp only [Option.some.injEq, Prod.mk.injEq] at H
   obtain ⟨rfl, rfl, rfl, rfl, rfl, rfl⟩ := H
   have hnb37 := NB247_248.out
   have hnc37 := NB248_247.out
   obtain ⟨hcz38_0, hcz38_1, hcz38_2, hcz38_3, hcz38_4⟩ := zd5 BK247
   obtain ⟨hfz38_0, hfz38_1, hfz38_2, hfz38_3, hfz38_4⟩ := zn5 BK247
   try go_wp2_with (first | ((with_reducible refine gate_callee (f := 65) rfl ?_); refine zgl (N := some 31) Try.func65 #[.agg #[.int .i64 a0_0, .int .i64 a0_1, .slice A0_2 l0_2.length c0_2, .int .i64 a0_3, .int .i64 a0_4]] ?_; (with_reducible refine (spec_l24Spans.calls kj3 a0_0 a0_1 _ _ l0_2 a0_3 a0_4 t252 true _ ?side1 ?side2 A26.out).mono ?_); (case side1 => exact zC HR0_2 HB); (case side2 => exact HC0_2.out); rintro e w39 ⟨v253, rfl, ho0, hb⟩; refine ⟨_, rfl, ?_⟩; have HO254 := Aside0.mk (Kd.R_lower ho0 (below_size (zs2 HB GE247 GE248))); replace BK247 := zb BK247 hb; replace BK248 := zb BK248 hb; replace HB := zE (zs2 HB GE247 GE248) hb; (try clear hb); (try clear hb2); (try clear hk); (try clear hi); (try clear ho0); obtain ⟨hcz40_0, hcz40_1, hcz40_2, hcz40_3, hcz40_4⟩ := zd5 BK247; obtain ⟨hfz40_0, hfz40_1, hfz40_2, hfz40_3, hfz40_4⟩ := zn5 BK247) | ((with_reducible refine gate_callee (f := 85) rfl ?_); refine zgl (N := some 39) Try.func85 #[.agg #[.int .i64 a0_0, .int .i64 a0_1, .slice A0_2 l0_2.length c0_2, .int .i64 a0_3, .int .i64 a0_4], .int .i64 a1] ?_; (with_reducible refine (spec_l27Tail.calls a0_0 a0_1 _ _ l0_2 a0_3 a0_4 a1 t256 t257 t258 t261 t262 _ ?side1 ?side2 A28.out).mono ?_); (case side1 => exact zC HR0_2 HB); (case side2 => exact HC0_2.out); rintro e w41 ⟨v259, rfl, ho0, hb⟩; refine ⟨_, rfl, ?_⟩; have HO260 := Aside0.mk (Kd.R_lower ho0 (below_size (zs2 HB GE247 GE248))); replace HO254 := Aside0.mk (Kd.R_below (zr HO254) hb); replace BK247 := zb BK247 hb; replace BK248 := zb BK248 hb; replace HB := zE (zs2 HB GE247 GE248) hb; (try clear hb); (try clear hb2); (try clear hk); (try clear hi); (try clear ho0)) | ((with_reducible refine gate_dst (N := 10) rfl ?_); (try (refine gate_guard (by rfl) ?_; dsimp only)); refine zbx 10 #[.int .i64 0, .int .i64 0, .slice none 0 0, .int .i64 0, .int .i64 0] 34 ?_; intro gb263 hg w42 hbox hb; have BK263 := zA hbox; have GW263 := zgs hg (zs2 HB GE247 GE248); have GE263 := zgs hg (zs2 HB GE247 GE248); have NB247_263 := zne hg BK247; have NB263_247 := znf hg BK247; have NB248_263 := zne hg BK248; have NB263_248 := znf hg BK248; replace HO254 := Aside0.mk (Kd.R_below (zr HO254) hb); replace HO260 := Aside0.mk (Kd.R_below (zr HO260) hb); replace BK247 := zb BK247 hb; replace BK248 := zb BK248 hb; replace HB := zE (zs2 HB GE247 GE248) hb; clear hb hbox hg; have hnb43 := NB263_247.out; have hnc43 := NB247_263.out; have hnb44 := NB263_248.out; have hnc44 := NB248_263.out; obtain ⟨hcz45_0, hcz45_1, hcz45_2, hcz45_3, hcz45_4⟩ := zd5 BK263; obtain ⟨hfz45_0, hfz45_1, hfz45_2, hfz45_3, hfz45_4⟩ := zn5 BK263; obtain ⟨Ao46, co46, eo46⟩ := Kd.R_slice HO260.out; subst eo46))
   obtain ⟨w47, e_⟩ : ∃ x, x = (((((w42.setCell ⟨gb263, 0, none⟩ (.int .i64 t256)).setCell ⟨gb263, 1, none⟩ (.int .i64 t257)).setCell ⟨gb263, 2, none⟩ (.slice Ao46 t258.length co46)).setCell ⟨gb263, 3, none⟩ (.int .i64 t261)).setCell ⟨gb263, 4, none⟩ (.int .i64 t262)) := ⟨_, rfl⟩
   have n0_ : Aside0 (Kd.R k46 46 w47 w.heap.size (fun _ => True) v253 t252) := by rw [e_]; exact ⟨zRf HO254 BK263 (fun _ hk => trivial)⟩
   have n1_ : Aside0 (Kd.R k88 88 w47 w.heap.size (fun _ => True) (.slice Ao46 t258.length co46) t258) := by rw [e_]; exact ⟨zRf HO260 BK263 (fun _ hk => trivial)⟩
   have n2_ : Aside0 (w47.heap[gb247]? = some (.cells #[.int .i64 a0_0, .int .i64 a0_1, .slice A0_2 l0_2.length c0_2, .int .i64 a0_3, .int .i64 a0_4] 34 (0, 0))) := by rw [e_]; exact ⟨zpf BK247 NB247_263⟩
   have n3_ : Aside0 (w47.heap[gb248]? = some (.cells #[.int .i64 0, .int .i64 0, .slice none 0 0, .int .i64 0, .int .i64 0] 34 (0, 0))) := by rw [e_]; exact ⟨zpf BK248 NB248_263⟩
   have n4_ : Aside0 (w47.heap[gb263]? = some (.cells #[.int .i64 t256, .int .i64 t257, .slice Ao46 t258.length co46, .int .i64 t261, .int .i64 t262] 34 (0, 0))) := by rw [e_]; exact ⟨zpb BK263⟩
   have n5_ : Aside0 (Below w.heap.size w w47) := by rw [e_]; exact ⟨zs3 HB GE247 GE248 GE263⟩
   (try clear HO254)
   (try clear HO260)
   (try clear BK247)
   (try clear BK248)
   (try clear BK263)
   (try clear HB)
   rw [← e_]; clear e_
   have HO254 := n0_
   have HO260 := n1_
   have BK247 := n2_
   have BK248 := n3_
   have BK263 := n4_
   have HB := n5_
   clear n0_ n1_ n2_ n3_ n4_ n5_
   replace HO254 := Aside0.mk (Kd.R_drew HO254.out)
   replace HO260 := Aside0.mk (Kd.R_drew HO260.out)
   replace BK247 := Aside0.mk (blk_drew BK247.out)
   replace BK248 := Aside0.mk (blk_drew BK248.out)
   replace BK263 := Aside0.mk (blk_drew BK263.out)
   replace HB := Aside0.mk (below_drew1 HB.out)
   obtain ⟨Ao49, co49, eo49⟩ := Kd.R_slice HO254.out
   (first | subst eo49 | (injection eo49 with f1_ f2_ f3_; have f4_ := f1_.symm; have f5_ := f3_.symm; clear f1_ f2_ f3_; subst f4_; subst f5_))
   have p264 : 0 ≤ (a1 : Int) := za
   have q264 : a1 < (t252.length : Int) := za
   obtain ⟨ad264, e264, hx264_0, hx264_1⟩ := at_T46 (Kd.R_reads' HO254.out).2.2 a1 p264 q264
   cases e264
   replace p264 := eq_true p264
   replace q264 := eq_true q264
   have p32 : 0 ≤ (0 : Int) := (by omega)
   have q32 : (0 : Int) < ((t258.length : Int) : Int) := za
   have qi32 : (0 < t258.length) = True := eq_true (by omega)
   obtain ⟨go32, co32, eo32, gb32, gl32, cl32, HG32⟩ := Kd.R_form HO260.out (by omega)
   (first | cases eo32 | (injection eo32 with ea_ en_ ec_; (first | subst ea_ | (injection ea_ with ea_; subst ea_)); subst ec_; clear en_))
   have GB32 := Aside0.mk gb32
   have GG32 := Aside0.mk HG32
   clear gb32 gl32 HG32
   obtain ⟨ce32, hcl32, hM32, hcc32, hfr32⟩ := Kd.R_elem HO260.out z88 (0 : Int) p32 q32
   obtain rfl := k88_openM hM32
   have hx32_0 : World.cell? _ ⟨go32, (0 : Int).toNat * 7, none⟩ = some (.int .i64 ((rd_T88 t258 0).f0)) := hcc32 0 _ rfl
   have hx32_1 : World.cell? _ ⟨go32, (0 : Int).toNat * 7 + 1, none⟩ = some (.int .i64 ((rd_T88 t258 0).f1)) := hcc32 1 _ rfl
   have hx32_2 : World.cell? _ ⟨go32, (0 : Int).toNat * 7 + 2, none⟩ = some (.int .i64 ((rd_T88 t258 0).f2)) := hcc32 2 _ rfl
   have hx32_3 : World.cell? _ ⟨go32, (0 : Int).toNat * 7 + 3, none⟩ = some (.int .i64 ((rd_T88 t258 0).f3)) := hcc32 3 _ rfl
   have hx32_4 : World.cell? _ ⟨go32, (0 : Int).toNat * 7 + 4, none⟩ = some (.int .i64 ((rd_T88 t258 0).f4)) := hcc32 4 _ rfl
   have hx32_5 : World.cell? _ ⟨go32, (0 : Int).toNat * 7 + 5, none⟩ = some (.int .i64 ((rd_T88 t258 0).f5)) := hcc32 5 _ rfl
   have hx32_6 : World.cell? _ ⟨go32, (0 : Int).toNat * 7 + 6, none⟩ = some (.bool ((rd_T88 t258 0).f6)) := hcc32 6 _ rfl
   have hf32_0 : World.frozen? _ ⟨go32, (0 : Int).toNat * 7, none⟩ = false := hfr32 0
   have hf32_1 : World.frozen? _ ⟨go32, (0 : Int).toNat * 7 + 1, none⟩ = false := hfr32 1
   have hf32_2 : World.frozen? _ ⟨go32, (0 : Int).toNat * 7 + 2, none⟩ = false := hfr32 2
   have hf32_3 : World.frozen? _ ⟨go32, (0 : Int).toNat * 7 + 3, none⟩ = false := hfr32 3
   have hf32_4 : World.frozen? _ ⟨go32, (0 : Int).toNat * 7 + 4, none⟩ = false := hfr32 4
   have hf32_5 : World.frozen? _ ⟨go32, (0 : Int).toNat * 7 + 5, none⟩ = false := hfr32 5
   have hf32_6 : World.frozen? _ ⟨go32, (0 : Int).toNat * 7 + 6, none⟩ = false := hfr32 6
   clear hcl32 hcc32 hfr32 hM32
   (try rw [zi0] at hx32_0)
   (try simp only [Nat.zero_mul, Nat.zero_add] at hx32_0)
   (try rw [zi0] at hf32_0)
   (try simp only [Nat.zero_mul, Nat.zero_add] at hf32_0)
   (try rw [zi0] at hx32_1)
   (try simp only [Nat.zero_mul, Nat.zero_add] at hx32_1)
   (try rw [zi0] at hf32_1)
   (try simp only [Nat.zero_mul, Nat.zero_add] at hf32_1)
   (try rw [zi0] at hx32_2)
   (try simp only [Nat.zero_mul, Nat.zero_add] at hx32_2)
   (try rw [zi0] at hf32_2)
   (try simp only [Nat.zero_mul, Nat.zero_add] at hf32_2)
   (try rw [zi0] at hx32_3)
   (try simp only [Nat.zero_mul, Nat.zero_add] at hx32_3)
   (try rw [zi0] at hf32_3)
   (try simp only [Nat.zero_mul, Nat.zero_add] at hf32_3)
   (try rw [zi0] at hx32_4)
   (try simp only [Nat.zero_mul, Nat.zero_add] at hx32_4)
   (try rw [zi0] at hf32_4)
   (try simp only [Nat.zero_mul, Nat.zero_add] at hf32_4)
   (try rw [zi0] at hx32_5)
   (try simp only [Nat.zero_mul, Nat.zero_add] at hx32_5)
   (try rw [zi0] at hf32_5)
   (try simp only [Nat.zero_mul, Nat.zero_add] at hf32_5)
   (try rw [zi0] at hx32_6)
   (try simp only [Nat.zero_mul, Nat.zero_add] at hx32_6)
   (try rw [zi0] at hf32_6)
   (try simp only [Nat.zero_mul, Nat.zero_add] at hf32_6)
   replace p32 := eq_true p32
   replace q32 := eq_true q32
   obtain ⟨ce50, hcl50, hM50, hcc50, hfr50⟩ := Kd.R_elem HO260.out z88 (0 : Int) (by omega) (by have h_ : (0 : Int) < ((t258.length : Int) : Int) := za; first | exact h_ | (have e_ := (Kd.R_reads' HO260.out).1; omega) | simpa using h_)
   obtain rfl := k88_openM hM50
   have HP50 := (Kd.R_seg HO260.out (0 : Int) (by omega) (by have h_ : (0 : Int) < ((t258.length : Int) : Int) := za; first | exact h_ | (have e_ := (Kd.R_reads' HO260.out).1; omega) | simpa using h_) (seg := [.int .i64 ((rd_T46 t252 a1).f0)]) (j := 4) hcl50 hcc50 (show 5 ≤ 7 from by decide) (x' := (⟨(rd_T88 t258 0).f0, (rd_T88 t258 0).f1, (rd_T88 t258 0).f2, (rd_T88 t258 0).f3, (rd_T46 t252 a1).f0, (rd_T88 t258 0).f5, (rd_T88 t258 0).f6⟩ : S88)) (k88_mkM _ _ _ (⟨(rd_T88 t258 0).f0, (rd_T88 t258 0).f1, (rd_T88 t258 0).f2, (rd_T88 t258 0).f3, (rd_T46 t252 a1).f0, (rd_T88 t258 0).f5, (rd_T88 t258 0).f6⟩ : S88) ) (fun _ hk => hk)).1
   rw [← Ny265.out] at HP50
   have HQ50 := Aside0.mk HP50
   clear hcl50 hcc50 hfr50 hM50 HP50
   refine start_ (n := 10) (S := fun w' => w'.cell? ⟨gb263, 0, none⟩ = some (.int .i64 t256) ∧ w'.cell? ⟨gb263, 1, none⟩ = some (.int .i64 t257) ∧ w'.cell? ⟨gb263, 2, none⟩ = some (.slice (some ⟨go32, 0, none⟩) t258.length co46) ∧ w'.cell? ⟨gb263, 3, none⟩ = some (.int .i64 t261) ∧ w'.cell? ⟨gb263, 4, none⟩ = some (.int .i64 t262) ∧ w'.cell? (ad264.add ((a1).toNat * 2)) = some (.int .i64 ((rd_T46 t252 a1).f0)) ∧ w'.cell? ⟨(ad264.add ((a1).toNat * 2)).block, (ad264.add ((a1).toNat * 2)).off + 1, none⟩ = some (.int .i64 ((rd_T46 t252 a1).f1))) (ds := [9]) #[false, false, false, false, false, false, false, false, false, false] (by kernel_rfl) rfl rfl ⟨zc0 BK263, zc1 BK263, zc2 BK263, zc3 BK263, zc4 BK263, hx264_0, hx264_1⟩ (fun hHeld => ?_); refine with_tabW spec_FlySeen.tab7 spec_FlySeen.bits7 (fun HT_ HW_ => ?_)
   generalize w47.drew = w48 at HO254 HO260 BK247 BK248 BK263 HB GG32 HQ50 hf32_0 hf32_1 hf32_2 hf32_3 hf32_4 hf32_5 hf32_6 hx264_0 hx264_1 hx32_0 hx32_1 hx32_2 hx32_3 hx32_4 hx32_5 hx32_6 hHeld ⊢
   refine zq HT_ 0 ?_
   refine zq HT_ 2 ?_
   refine zq HT_ 3 ?_
   refine zq HT_ 4 ?_
   refine zq HT_ 5 ?_
   refine zk7 HT_ HW_ hHeld 1 ?_
   refine zk7 HT_ HW_ hHeld 6 ?_
   refine zq HT_ 7 ?_
   refine zq HT_ 8 ?_
   refine zO HT_ 9 (fun K hK => ?_)
   refine skip_ (w1 := ?_) (by rfl) rfl ?_ ?_
   rotate_left
   ·go_simp
    rfl
   refine hK.out _ _ ?_
   clear hK K
   refine done_ (done_of HT_.out (by kernel_rfl)) ?_
   obtain ⟨w51, e_⟩ : ∃ x, x = (w48.setCell ⟨go32, 4, none⟩ (.int .i64 ((rd_T46 t252 a1).f0))) := ⟨_, rfl⟩
   obtain ⟨_, hgg_⟩ := Kd.R_typed HO260.out go32 rfl
   replace GG32 := zA hgg_
   clear hgg_
   have n0_ : Aside0 (Kd.R k46 46 w51 w.heap.size (fun _ => True) (.slice (some ad264) t252.length co49) t252) := by rw [e_]; exact ⟨by (with_reducible repeat (first | apply Kd.R_alloc | apply Kd.R_drewN | apply Kd.R_drew)); exact Kd.R_mono (Kd.R_far (p := ⟨go32, 4, none⟩) (Kd.R_types HO254.out GG32.out (by decide)) (fun _ hk => hk.2) (.int .i64 ((rd_T46 t252 a1).f0))) (fun _ hk => trivial)⟩
   have n1_ : Aside0 (Kd.R k88 88 w51 w.heap.size (fun _ => True) (.slice (some ⟨go32, 0, none⟩) t258.length co46) y265) := by rw [e_]; exact ⟨zr HQ50⟩
   have n2_ : Aside0 (w51.heap[gb247]? = some (.cells #[.int .i64 a0_0, .int .i64 a0_1, .slice A0_2 l0_2.length c0_2, .int .i64 a0_3, .int .i64 a0_4] 34 (0, 0))) := by rw [e_]; exact ⟨by (with_reducible repeat (first | refine blk_drewN ?_ _ | refine blk_drew ?_ | refine blk_alloc ?_ _)); refine blk_far ?_ (by have h_ := Kd.R_ne HO260.out BK247.out (by decide); intro e_; exact h_ (by rw [e_]; rfl)) _; (with_reducible repeat (first | refine blk_drewN ?_ _ | refine blk_drew ?_ | refine blk_alloc ?_ _)); exact BK247.out⟩
   have n3_ : Aside0 (w51.heap[gb248]? = some (.cells #[.int .i64 0, .int .i64 0, .slice none 0 0, .int .i64 0, .int .i64 0] 34 (0, 0))) := by rw [e_]; exact ⟨by (with_reducible repeat (first | refine blk_drewN ?_ _ | refine blk_drew ?_ | refine blk_alloc ?_ _)); refine blk_far ?_ (by have h_ := Kd.R_ne HO260.out BK248.out (by decide); intro e_; exact h_ (by rw [e_]; rfl)) _; (with_reducible repeat (first | refine blk_drewN ?_ _ | refine blk_drew ?_ | refine blk_alloc ?_ _)); exact BK248.out⟩
   have n4_ : Aside0 (w51.heap[gb263]? = some (.cells #[.int .i64 t256, .int .i64 t257, .slice (some ⟨go32, 0, none⟩) t258.length co46, .int .i64 t261, .int .i64 t262] 34 (0, 0))) := by rw [e_]; exact ⟨by (with_reducible repeat (first | refine blk_drewN ?_ _ | refine blk_drew ?_ | refine blk_alloc ?_ _)); refine blk_far ?_ (by have h_ := Kd.R_ne HO260.out BK263.out (by decide); intro e_; exact h_ (by rw [e_]; rfl)) _; (with_reducible repeat (first | refine blk_drewN ?_ _ | refine blk_drew ?_ | refine blk_alloc ?_ _)); exact BK263.out⟩
   have n5_ : Aside0 (Below w.heap.size w w51) := by rw [e_]; exact ⟨by repeat (first | (with_reducible first | exact HB.out | apply below_alloc | apply pw_below_drewN | apply below_drew1 | refine below_set ?_ GB32.out | refine below_set ?_ GE247.out | refine below_set ?_ GE248.out | refine below_set ?_ GE263.out) | exact HB.out)⟩
   (try clear HO254)
   (try clear HO260)
   (try clear BK247)
   (try clear BK248)
   (try clear BK263)
   (try clear HB)
   rw [← e_]; clear e_
   have HO254 := n0_
   have HO260 := n1_
   have BK247 := n2_
   have BK248 := n3_
   have BK263 := n4_
   have HB := n5_
   clear n0_ n1_ n2_ n3_ n4_ n5_
   try go_wp2
   replace HO254 := Aside0.mk (Kd.R_drew HO254.out)
   replace HO260 := Aside0.mk (Kd.R_drew HO260.out)
   replace BK247 := Aside0.mk (blk_drew BK247.out)
   replace BK248 := Aside0.mk (blk_drew BK248.out)
   replace BK263 := Aside0.mk (blk_drew BK263.out)
   replace HB := Aside0.mk (below_drew1 HB.out)
   have p266 : 0 ≤ (a1 : Int) := za
   have q266 : a1 < (t252.length : Int) := za
   obtain ⟨ad266, e266, hx266_0, hx266_1⟩ := at_T46 (Kd.R_reads' HO254.out).2.2 a1 p266 q266
   obtain rfl : ad264 = ad266 := (by injection e266)
   replace p266 := eq_true p266
   replace q266 := eq_true q266
   refine start_ (n := 12) (S := fun w' => w'.cell? ⟨gb263, 0, none⟩ = some (.int .i64 t256) ∧ w'.cell? ⟨gb263, 1, none⟩ = some (.int .i64 t257) ∧ w'.cell? ⟨gb263, 2, none⟩ = some (.slice (some ⟨go32, 0, none⟩) t258.length co46) ∧ w'.cell? ⟨gb263, 3, none⟩ = some (.int .i64 t261) ∧ w'.cell? ⟨gb263, 4, none⟩ = some (.int .i64 t262) ∧ w'.cell? (ad264.add ((a1).toNat * 2)) = some (.int .i64 ((rd_T46 t252 a1).f0)) ∧ w'.cell? ⟨(ad264.add ((a1).toNat * 2)).block, (ad264.add ((a1).toNat * 2)).off + 1, none⟩ = some (.int .i64 ((rd_T46 t252 a1).f1))) (ds := [11]) #[false, false, false, false, false, false, false, false, false, false, false, false] (by kernel_rfl) rfl rfl ⟨zc0 BK263, zc1 BK263, zc2 BK263, zc3 BK263, zc4 BK263, hx266_0, hx266_1⟩ (fun hHeld => ?_); refine with_tabW spec_FlySeen.tab8 spec_FlySeen.bits8 (fun HT_ HW_ => ?_)
   generalize w51.drew = w52 at HO254 HO260 BK247 BK248 BK263 HB hx266_0 hx266_1 hHeld ⊢
   refine zq HT_ 0 ?_
   refine zq HT_ 2 ?_
   refine zq HT_ 3 ?_
   refine zq HT_ 4 ?_
   refine zq HT_ 5 ?_
   refine zq HT_ 7 ?_
   refine zk7 HT_ HW_ hHeld 1 ?_
   refine zk7 HT_ HW_ hHeld 6 ?_
   refine zo HT_ 8 (fun K hK => ?_)
   refine zgo Try.func53 #[.int .i64 ((rd_T46 t252 a1).f1), .int .i64 a2] ?_
   with_reducible refine (spec_l21Min.calls ((rd_T46 t252 a1).f1) a2 t267 _ A33.out).mono ?_
   rintro e w' ⟨rfl, ⟨nd, rfl⟩⟩
   refine ⟨_, rfl, ?_⟩
   have p34 : 0 ≤ (0 : Int) := (by omega)
   have q34 : (0 : Int) < ((t258.length : Int) : Int) := za
   have qi34 : (0 < t258.length) = True := eq_true (by omega)
   obtain ⟨ce34, hcl34, hM34, hcc34, hfr34⟩ := Kd.R_elem HO260.out z88 (0 : Int) p34 q34
   obtain rfl := k88_openM hM34
   have hx34_0 : World.cell? _ ⟨go32, (0 : Int).toNat * 7, none⟩ = some (.int .i64 ((rd_T88 y265 0).f0)) := hcc34 0 _ rfl
   have hx34_1 : World.cell? _ ⟨go32, (0 : Int).toNat * 7 + 1, none⟩ = some (.int .i64 ((rd_T88 y265 0).f1)) := hcc34 1 _ rfl
   have hx34_2 : World.cell? _ ⟨go32, (0 : Int).toNat * 7 + 2, none⟩ = some (.int .i64 ((rd_T88 y265 0).f2)) := hcc34 2 _ rfl
   have hx34_3 : World.cell? _ ⟨go32, (0 : Int).toNat * 7 + 3, none⟩ = some (.int .i64 ((rd_T88 y265 0).f3)) := hcc34 3 _ rfl
   have hx34_4 : World.cell? _ ⟨go32, (0 : Int).toNat * 7 + 4, none⟩ = some (.int .i64 ((rd_T88 y265 0).f4)) := hcc34 4 _ rfl
   have hx34_5 : World.cell? _ ⟨go32, (0 : Int).toNat * 7 + 5, none⟩ = some (.int .i64 ((rd_T88 y265 0).f5)) := hcc34 5 _ rfl
   have hx34_6 : World.cell? _ ⟨go32, (0 : Int).toNat * 7 + 6, none⟩ = some (.bool ((rd_T88 y265 0).f6)) := hcc34 6 _ rfl
   have hf34_0 : World.frozen? _ ⟨go32, (0 : Int).toNat * 7, none⟩ = false := hfr34 0
   have hf34_1 : World.frozen? _ ⟨go32, (0 : Int).toNat * 7 + 1, none⟩ = false := hfr34 1
   have hf34_2 : World.frozen? _ ⟨go32, (0 : Int).toNat * 7 + 2, none⟩ = false := hfr34 2
   have hf34_3 : World.frozen? _ ⟨go32, (0 : Int).toNat * 7 + 3, none⟩ = false := hfr34 3
   have hf34_4 : World.frozen? _ ⟨go32, (0 : Int).toNat * 7 + 4, none⟩ = false := hfr34 4
   have hf34_5 : World.frozen? _ ⟨go32, (0 : Int).toNat * 7 + 5, none⟩ = false := hfr34 5
   have hf34_6 : World.frozen? _ ⟨go32, (0 : Int).toNat * 7 + 6, none⟩ = false := hfr34 6
   clear hcl34 hcc34 hfr34 hM34
   (try rw [zi0] at hx34_0)
   (try simp only [Nat.zero_mul, Nat.zero_add] at hx34_0)
   (try rw [zi0] at hf34_0)
   (try simp only [Nat.zero_mul, Nat.zero_add] at hf34_0)
   (try rw [zi0] at hx34_1)
   (try simp only [Nat.zero_mul, Nat.zero_add] at hx34_1)
   (try rw [zi0] at hf34_1)
   (try simp only [Nat.zero_mul, Nat.zero_add] at hf34_1)
   (try rw [zi0] at hx34_2)
   (try simp only [Nat.zero_mul, Nat.zero_add] at hx34_2)
   (try rw [zi0] at hf34_2)
   (try simp only [Nat.zero_mul, Nat.zero_add] at hf34_2)
   (try rw [zi0] at hx34_3)
   (try simp only [Nat.zero_mul, Nat.zero_add] at hx34_3)
   (try rw [zi0] at hf34_3)
   (try simp only [Nat.zero_mul, Nat.zero_add] at hf34_3)
   (try rw [zi0] at hx34_4)
   (try simp only [Nat.zero_mul, Nat.zero_add] at hx34_4)
   (try rw [zi0] at hf34_4)
   (try simp only [Nat.zero_mul, Nat.zero_add] at hf34_4)
   (try rw [zi0] at hx34_5)
   (try simp only [Nat.zero_mul, Nat.zero_add] at hx34_5)
   (try rw [zi0] at hf34_5)
   (try simp only [Nat.zero_mul, Nat.zero_add] at hf34_5)
   (try rw [zi0] at hx34_6)
   (try simp only [Nat.zero_mul, Nat.zero_add] at hx34_6)
   (try rw [zi0] at hf34_6)
   (try simp only [Nat.zero_mul, Nat.zero_add] at hf34_6)
   replace p34 := eq_true p34
   replace q34 := eq_true q34
   obtain ⟨ce53, hcl53, hM53, hcc53, hfr53⟩ := Kd.R_elem HO260.out z88 (0 : Int) (by omega) (by have h_ : (0 : Int) < ((t258.length : Int) : Int) := za; first | exact h_ | (have e_ := (Kd.R_reads' HO260.out).1; omega) | simpa using h_)
   obtain rfl := k88_openM hM53
   have HP53 := (Kd.R_seg HO260.out (0 : Int) (by omega) (by have h_ : (0 : Int) < ((t258.length : Int) : Int) := za; first | exact h_ | (have e_ := (Kd.R_reads' HO260.out).1; omega) | simpa using h_) (seg := [.int .i64 t267]) (j := 5) hcl53 hcc53 (show 6 ≤ 7 from by decide) (x' := (⟨(rd_T88 y265 0).f0, (rd_T88 y265 0).f1, (rd_T88 y265 0).f2, (rd_T88 y265 0).f3, (rd_T88 y265 0).f4, t267, (rd_T88 y265 0).f6⟩ : S88)) (k88_mkM _ _ _ (⟨(rd_T88 y265 0).f0, (rd_T88 y265 0).f1, (rd_T88 y265 0).f2, (rd_T88 y265 0).f3, (rd_T88 y265 0).f4, t267, (rd_T88 y265 0).f6⟩ : S88) ) (fun _ hk => hk)).1
   rw [← Ny268.out] at HP53
   have HQ53 := Aside0.mk HP53
   clear hcl53 hcc53 hfr53 hM53 HP53
   refine hK.out _ _ ⟨zc0 BK263, zc1 BK263, zc2 BK263, zc3 BK263, zc4 BK263, hHeld.2.2.2.2.2⟩ (fun hHeld => ?_)
   clear hK K
   refine zN ?_
   refine zq HT_ 9 ?_
   refine zq HT_ 10 ?_
   refine zO HT_ 11 (fun K hK => ?_)
   refine skip_ (w1 := ?_) (by rfl) rfl ?_ ?_
   rotate_left
   ·go_simp
    rfl
   refine hK.out _ _ ?_
   clear hK K
   refine done_ (done_of HT_.out (by kernel_rfl)) ?_
   obtain ⟨_, hgg_⟩ := Kd.R_typed HO260.out go32 rfl
   replace GG32 := zA hgg_
   clear hgg_
   have n0_ : Aside0 (Kd.R k46 46 (w52.setCell ⟨go32, 5, none⟩ (.int .i64 t267)) w.heap.size (fun _ => True) (.slice (some ad264) t252.length co49) t252) := ⟨by (with_reducible repeat (first | apply Kd.R_alloc | apply Kd.R_drewN | apply Kd.R_drew)); exact Kd.R_mono (Kd.R_far (p := ⟨go32, 5, none⟩) (Kd.R_types HO254.out GG32.out (by decide)) (fun _ hk => hk.2) (.int .i64 t267)) (fun _ hk => trivial)⟩
   have n1_ : Aside0 (Kd.R k88 88 (w52.setCell ⟨go32, 5, none⟩ (.int .i64 t267)) w.heap.size (fun _ => True) (.slice (some ⟨go32, 0, none⟩) t258.length co46) y268) := ⟨zr HQ53⟩
   have n2_ : Aside0 ((w52.setCell ⟨go32, 5, none⟩ (.int .i64 t267)).heap[gb247]? = some (.cells #[.int .i64 a0_0, .int .i64 a0_1, .slice A0_2 l0_2.length c0_2, .int .i64 a0_3, .int .i64 a0_4] 34 (0, 0))) := ⟨by (with_reducible repeat (first | refine blk_drewN ?_ _ | refine blk_drew ?_ | refine blk_alloc ?_ _)); refine blk_far ?_ (by have h_ := Kd.R_ne HO260.out BK247.out (by decide); intro e_; exact h_ (by rw [e_]; rfl)) _; (with_reducible repeat (first | refine blk_drewN ?_ _ | refine blk_drew ?_ | refine blk_alloc ?_ _)); exact BK247.out⟩
   have n3_ : Aside0 ((w52.setCell ⟨go32, 5, none⟩ (.int .i64 t267)).heap[gb248]? = some (.cells #[.int .i64 0, .int .i64 0, .slice none 0 0, .int .i64 0, .int .i64 0] 34 (0, 0))) := ⟨by (with_reducible repeat (first | refine blk_drewN ?_ _ | refine blk_drew ?_ | refine blk_alloc ?_ _)); refine blk_far ?_ (by have h_ := Kd.R_ne HO260.out BK248.out (by decide); intro e_; exact h_ (by rw [e_]; rfl)) _; (with_reducible repeat (first | refine blk_drewN ?_ _ | refine blk_drew ?_ | refine blk_alloc ?_ _)); exact BK248.out⟩
   have n4_ : Aside0 ((w52.setCell ⟨go32, 5, none⟩ (.int .i64 t267)).heap[gb263]? = some (.cells #[.int .i64 t256, .int .i64 t257, .slice (some ⟨go32, 0, none⟩) t258.length co46, .int .i64 t261, .int .i64 t262] 34 (0, 0))) := ⟨by (with_reducible repeat (first | refine blk_drewN ?_ _ | refine blk_drew ?_ | refine blk_alloc ?_ _)); refine blk_far ?_ (by have h_ := Kd.R_ne HO260.out BK263.out (by decide); intro e_; exact h_ (by rw [e_]; rfl)) _; (with_reducible repeat (first | refine blk_drewN ?_ _ | refine blk_drew ?_ | refine blk_alloc ?_ _)); exact BK263.out⟩
   have n5_ : Aside0 (Below w.heap.size w (w52.setCell ⟨go32, 5, none⟩ (.int .i64 t267))) := ⟨by repeat (first | (with_reducible first | exact HB.out | apply below_alloc | apply pw_below_drewN | apply below_drew1 | refine below_set ?_ GB32.out | refine below_set ?_ GE247.out | refine below_set ?_ GE248.out | refine below_set ?_ GE263.out) | exact HB.out)⟩
   (try clear HO254)
   (try clear HO260)
   (try clear BK247)
   (try clear BK248)
   (try clear BK263)
   (try clear HB)
   generalize (w52.setCell ⟨go32, 5, none⟩ (.int .i64 t267)) = w54 at n0_ n1_ n2_ n3_ n4_ n5_ ⊢
   have HO254 := n0_
   have HO260 := n1_
   have BK247 := n2_
   have BK248 := n3_
   have BK263 := n4_
   have HB := n5_
   clear n0_ n1_ n2_ n3_ n4_ n5_
   obtain ⟨hcz55_0, hcz55_1, hcz55_2, hcz55_3, hcz55_4⟩ := zd5 BK263
   obtain ⟨hfz55_0, hfz55_1, hfz55_2, hfz55_3, hfz55_4⟩ := zn5 BK263
   try go_wp2_with (first | ((with_reducible refine gate_callee (f := 87) rfl ?_); refine zgl (N := some 62) Try.func87 #[.agg #[.int .i64 t256, .int .i64 t257, .slice (some ⟨go32, 0, none⟩) t258.length co46, .int .i64 t261, .int .i64 t262], .int .i64 a2] ?_; (with_reducible refine (spec_l27After.calls t256 t257 (fun k_ => some k_ = (.slice (some ⟨go32, 0, none⟩) t258.length co46 : Value).ownBlock) (.slice (some ⟨go32, 0, none⟩) t258.length co46) y268 t261 t262 a2 t269 t270 t271 t274 t275 w _ ?side1 ?side2 A35.out).mono ?_); (case side1 => repeat (first | (with_reducible first | exact HB.out | apply below_alloc | apply pw_below_drewN | apply below_drew1 | refine below_set ?_ GE247.out | refine below_set ?_ GE248.out | refine below_set ?_ GE263.out) | exact HB.out)); (case side2 => exact Kd.R_tight rfl HO260.out); rintro e w56 ⟨v272, rfl, ho0, hb, hkp⟩; refine ⟨_, rfl, ?_⟩; have HO273 := Aside0.mk (Kd.R_mono (ok' := fun k_ => True) ho0 (fun k_ hk_ => trivial)); replace BK247 := Aside0.mk (blk_kept (zh BK247) hkp (fun hs_ => (fun e_ => (Kd.R_ne HO260.out BK247.out (by decide)) e_) hs_)); replace BK248 := Aside0.mk (blk_kept (zh BK248) hkp (fun hs_ => (fun e_ => (Kd.R_ne HO260.out BK248.out (by decide)) e_) hs_)); replace HO254 := Aside0.mk (Kd.R_mono (ok' := fun k_ => True) (Kd.R_keptB ((Kd.R_apart' HO254.out (Kd.R_typed HO260.out) (by decide))) hkp (fun k_ hk_ hs_ => (hk_.2) hs_)) (fun k_ hk_ => trivial)); replace BK263 := Aside0.mk (blk_kept (zh BK263) hkp (fun hs_ => (fun e_ => (Kd.R_ne HO260.out BK263.out (by decide)) e_) hs_)); replace HB := Aside0.mk (hb); clear HO260; (try clear hb); (try clear hkp); (try clear ho0); obtain ⟨Ao57, co57, eo57⟩ := Kd.R_slice HO273.out; subst eo57) | ((with_reducible refine gate_callee (f := 86) rfl ?_); refine zgl (N := some 63) Try.func86 #[.agg #[.int .i64 t269, .int .i64 t270, .slice Ao57 t271.length co57, .int .i64 t274, .int .i64 t275]] ?_; (with_reducible refine (spec_l27Can.calls kj3 t269 t270 (fun k_ => some k_ = (.slice Ao57 t271.length co57 : Value).ownBlock) (.slice Ao57 t271.length co57) t271 t274 t275 t276 t277 t278 t281 t282 t283 w _ ?side1 ?side2 A36.out).mono ?_); (case side1 => repeat (first | (with_reducible first | exact HB.out | apply below_alloc | apply pw_below_drewN | apply below_drew1 | refine below_set ?_ GE247.out | refine below_set ?_ GE248.out | refine below_set ?_ GE263.out) | exact HB.out)); (case side2 => exact Kd.R_tight rfl HO273.out); rintro e w58 ⟨v279, rfl, ho0, hb, hkp⟩; refine ⟨_, rfl, ?_⟩; have HO280 := Aside0.mk (Kd.R_mono (ok' := fun k_ => True) ho0 (fun k_ hk_ => trivial)); replace BK247 := Aside0.mk (blk_kept (zh BK247) hkp (fun hs_ => (fun e_ => (Kd.R_ne HO273.out BK247.out (by decide)) e_) hs_)); replace BK248 := Aside0.mk (blk_kept (zh BK248) hkp (fun hs_ => (fun e_ => (Kd.R_ne HO273.out BK248.out (by decide)) e_) hs_)); replace HO254 := Aside0.mk (Kd.R_mono (ok' := fun k_ => True) (Kd.R_keptB ((Kd.R_apart' HO254.out (Kd.R_typed HO273.out) (by decide))) hkp (fun k_ hk_ hs_ => (hk_.2) hs_)) (fun k_ hk_ => trivial)); replace BK263 := Aside0.mk (blk_kept (zh BK263) hkp (fun hs_ => (fun e_ => (Kd.R_ne HO273.out BK263.out (by decide)) e_) hs_)); replace HB := Aside0.mk (hb); clear HO273; (try clear hb); (try clear hkp); (try clear ho0); obtain ⟨hcz59_0, hcz59_1, hcz59_2, hcz59_3, hcz59_4⟩ := zd5 BK248; obtain ⟨hfz59_0, hfz59_1, hfz59_2, hfz59_3, hfz59_4⟩ := zn5 BK248; obtain ⟨Ao60, co60, eo60⟩ := Kd.R_slice HO280.out; subst eo60))
   refine bodyPost_ret (results_ct rfl _ _ gb248 34 #[.int .i64 t276, .int .i64 t277, .slice Ao60 t278.length co60, .int .i64 t281, .int .i64 t282] (0, 0) _ rfl ?hz Try.underlying34 rfl (by kernel_rfl)) rfl ?_; (case hz => exact zpb BK248)
   exact ⟨_, ze, by (with_reducible repeat (first | apply Kd.R_alloc | apply Kd.R_drewN | apply Kd.R_drew)); exact Kd.R_mono (Kd.R_far (p := ⟨gb248, 4, none⟩) (Kd.R_far (p := ⟨gb248, 3, none⟩) (Kd.R_far (p := ⟨gb248, 2, none⟩) (Kd.R_far (p := ⟨gb248, 1, none⟩) (Kd.R_far (p := ⟨gb248, 0, none⟩) (Kd.R_types HO280.out BK248.out (by decide)) (fun _ hk => hk.2) (.int .i64 t276)) (fun _ hk => hk.2) (.int .i64 t277)) (fun _ hk => hk.2) (.slice Ao60 t278.length co60)) (fun _ hk => hk.2) (.int .i64 t281)) (fun _ hk => hk.2) (.int .i64 t282)) (fun _ hk => trivial), zs3 HB GE247 GE248 GE263⟩
end Go.Proofs.Ytidenmcoilmbcaa.QFnExactFlySeen
