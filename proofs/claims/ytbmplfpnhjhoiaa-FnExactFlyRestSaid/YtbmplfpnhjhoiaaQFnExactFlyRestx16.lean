/- The walk of what the law FnExactFlyRest reaches: laid by a program of this session (ownprint.py). -/
import Derived.Test.YtbmplfpnhjhoiaaQFnExactFlyRestx0
import Derived.Test.YtbmplfpnhjhoiaaQFnExactFlyRestx15
namespace Go.Proofs.Ytbmplfpnhjhoiaa.QFnExactFlyRest
open Go.RowKit Go.Proofs.YtbmplfpnhjhoiaaW.PrintWords Go.Proofs.YtbmplfpnhjhoiaaW.PrintLast Go.Proofs.YtbmplfpnhjhoiaaW.PrintMore Go.Proofs.Ytbmplfpnhjhoiaa.Z
attribute [local go_sem] max2_int min2_int max_two min_two max_three min_three max_four min_four zdn   -- for this text's walks alone
set_option linter.unusedVariables false
set_option linter.unusedSimpArgs false
def impl_FlyPath_rest.f (k : Nat) (a0_0 : Int) (a0_1 : Int) (l0_2 : List (S132)) (a0_3 : Int) (a0_4 : Int) (a1 : Int) (a2 : Int) (a3 : Int) (a4 : Int) : Option (Int × Int × (List (S132)) × Int × Int × Bool) := if 0 ≤ a1 then (if a1 ≤ (l0_2.length : Int) then ((some (l0_2.drop (a1 : Int).toNat : List (S132))).bind fun y378 => (if ([] : List (S132)).length + y378.length < 2513169434916 then ((some (([] : List (S132)) ++ y378 : List (S132))).bind fun y382 => (if 0 < (y382.length : Int) then ((some (y382.set (0 : Int).toNat (⟨(rd_T132 y382 0).f0, (rd_T132 y382 0).f1, (rd_T132 y382 0).f2, (rd_T132 y382 0).f3, a2, (rd_T132 y382 0).f5, (rd_T132 y382 0).f6⟩ : S132) : List (S132))).bind fun y386 => ((some (y386.set (0 : Int).toNat (⟨(rd_T132 y386 0).f0, (rd_T132 y386 0).f1, (rd_T132 y386 0).f2, (rd_T132 y386 0).f3, (rd_T132 y386 0).f4, a3, (rd_T132 y386 0).f6⟩ : S132) : List (S132))).bind fun y387 => (if (y382.length : Int) > 1 then (if 1 < (y382.length : Int) then ((some (y387.set (1 : Int).toNat (⟨(rd_T132 y387 1).f0, (rd_T132 y387 1).f1, (rd_T132 y387 1).f2, (rd_T132 y387 1).f3, mx ((rd_T132 y387 1).f4) (wrap64 (a4 + 1)), (rd_T132 y387 1).f5, (rd_T132 y387 1).f6⟩ : S132) : List (S132))).bind fun y389 => ((impl_FlySpans.f k a0_0 a0_1 y389 a0_3 a0_4).bind fun bt390 => (if bt390.2 = true then (some (a0_0, a0_1, y389, a0_3, a0_4, true)) else (some (0, 0, ([] : List (S132)), 0, 0, false))))) else (none)) else ((impl_FlySpans.f k a0_0 a0_1 y387 (mx a0_3 (wrap64 (a4 + 1))) a0_4).bind fun bt394 => (if bt394.2 = true then (some (a0_0, a0_1, y387, mx a0_3 (wrap64 (a4 + 1)), a0_4, true)) else (some (0, 0, ([] : List (S132)), 0, 0, false))))))) else (none))) else (none))) else (none)) else (none)
def impl_FlyPath_rest.T1 : Bool × List (List Nat × List Nat) := (true, [([], []), ([0], [0]), ([], []), ([2], [2]), ([], []), ([3, 4], [3, 4]), ([5], [5]), ([], []), ([7], [7]), ([], []), ([9], [9]), ([1, 6, 8, 10], [1, 6, 8, 10]), ([], []), ([12, 11, 6, 0, 1, 2, 3, 4, 5, 6, 7, 8, 9, 10, 11, 12], [11, 12])])
def impl_FlyPath_rest.B1 : List Nat := [0, 1, 0, 4, 0, 28, 60, 0, 128, 0, 512, 2047, 0, 8191]
theorem impl_FlyPath_rest.tab1 : rtab .any (opsOf Try.f133 1) = impl_FlyPath_rest.T1 := by kernel_rfl
theorem impl_FlyPath_rest.bits1 : waitsOk impl_FlyPath_rest.T1.2 impl_FlyPath_rest.B1 = true := by kernel_rfl
def impl_FlyPath_rest.T2 : Bool × List (List Nat × List Nat) := (true, [([], []), ([0], [0]), ([], []), ([2], [2]), ([], []), ([], []), ([1, 0, 1, 4], [1]), ([6, 0, 1, 4], [6]), ([7, 4, 0, 1, 4], [4, 7]), ([3, 0, 1, 2, 3, 4, 5, 6, 7, 8], [3]), ([9, 0, 1, 2, 3, 4, 5, 6, 7, 8], [9]), ([10, 5, 8, 0, 1, 2, 3, 4, 5, 6, 7, 8], [5, 10])])
def impl_FlyPath_rest.B2 : List Nat := [0, 1, 0, 4, 0, 0, 19, 83, 211, 511, 1023, 2047]
theorem impl_FlyPath_rest.tab2 : rtab .any (opsOf Try.f133 2) = impl_FlyPath_rest.T2 := by kernel_rfl
theorem impl_FlyPath_rest.bits2 : waitsOk impl_FlyPath_rest.T2.2 impl_FlyPath_rest.B2 = true := by kernel_rfl
def impl_FlyPath_rest.T4 : Bool × List (List Nat × List Nat) := (true, [([], []), ([0], [0]), ([], []), ([2], [2]), ([3], [3]), ([4], [4]), ([5], [5]), ([], []), ([7], [7]), ([6, 8], [6, 8]), ([1, 0, 1, 2, 3, 4, 5, 6, 7, 8, 9], [1]), ([10, 0, 1, 2, 3, 4, 5, 6, 7, 8, 9], [10]), ([11, 9, 0, 1, 2, 3, 4, 5, 6, 7, 8, 9], [9, 11])])
def impl_FlyPath_rest.B4 : List Nat := [0, 1, 0, 4, 12, 28, 60, 0, 128, 508, 1023, 2047, 4095]
theorem impl_FlyPath_rest.tab4 : rtab .any (opsOf Try.f133 4) = impl_FlyPath_rest.T4 := by kernel_rfl
theorem impl_FlyPath_rest.bits4 : waitsOk impl_FlyPath_rest.T4.2 impl_FlyPath_rest.B4 = true := by kernel_rfl
set_option maxHeartbeats 8000000 in
set_option maxRecDepth 100000 in
theorem impl_FlyPath_rest.calls (k : Nat) (a0_0 : Int) (a0_1 : Int) (A0_2 : Option Addr) (c0_2 : Nat) (l0_2 : List (S132)) (a0_3 : Int) (a0_4 : Int) (a1 : Int) (a2 : Int) (a3 : Int) (a4 : Int) (r1 : Int) (r2 : Int) (r3 : List (S132)) (r4 : Int) (r5 : Int) (r6 : Bool) (w : World) (hr0_2 : Kd.C k132 w A0_2 l0_2.length l0_2) (hc0_2 : l0_2.length ≤ c0_2) (h : impl_FlyPath_rest.f k a0_0 a0_1 l0_2 a0_3 a0_4 a1 a2 a3 a4 = some (r1, r2, r3, r4, r5, r6)) :
 Calls Try.prog 133 #[.agg #[.int .i64 a0_0, .int .i64 a0_1, .slice A0_2 l0_2.length c0_2, .int .i64 a0_3, .int .i64 a0_4], .int .i64 a1, .int .i64 a2, .int .i64 a3, .int .i64 a4] w fun e w' => ∃ v2_ : Value, e = .returned (.tuple #[.agg #[.int .i64 r1, .int .i64 r2, v2_, .int .i64 r4, .int .i64 r5], .bool r6]) ∧ Kd.R k132 132 w' w.heap.size (fun _ => True) v2_ r3 ∧ Below w.heap.size w w' := by
 have hu68 := Try.underlying68
 have hu44 := Try.underlying44
 have HR0_2 := zA hr0_2
 have HC0_2 := zA hc0_2
 clear hr0_2 hc0_2
 have HB := zA (Below.refl w.heap.size w)
 have H : (if 0 ≤ a1 then (if a1 ≤ (l0_2.length : Int) then ((some (l0_2.drop (a1 : Int).toNat : List (S132))).bind fun y378 => (if ([] : List (S132)).length + y378.length < 2513169434916 then ((some (([] : List (S132)) ++ y378 : List (S132))).bind fun y382 => (if 0 < (y382.length : Int) then ((some (y382.set (0 : Int).toNat (⟨(rd_T132 y382 0).f0, (rd_T132 y382 0).f1, (rd_T132 y382 0).f2, (rd_T132 y382 0).f3, a2, (rd_T132 y382 0).f5, (rd_T132 y382 0).f6⟩ : S132) : List (S132))).bind fun y386 => ((some (y386.set (0 : Int).toNat (⟨(rd_T132 y386 0).f0, (rd_T132 y386 0).f1, (rd_T132 y386 0).f2, (rd_T132 y386 0).f3, (rd_T132 y386 0).f4, a3, (rd_T132 y386 0).f6⟩ : S132) : List (S132))).bind fun y387 => (if (y382.length : Int) > 1 then (if 1 < (y382.length : Int) then ((some (y387.set (1 : Int).toNat (⟨(rd_T132 y387 1).f0, (rd_T132 y387 1).f1, (rd_T132 y387 1).f2, (rd_T132 y387 1).f3, mx ((rd_T132 y387 1).f4) (wrap64 (a4 + 1)), (rd_T132 y387 1).f5, (rd_T132 y387 1).f6⟩ : S132) : List (S132))).bind fun y389 => ((impl_FlySpans.f k a0_0 a0_1 y389 a0_3 a0_4).bind fun bt390 => (if bt390.2 = true then (some (a0_0, a0_1, y389, a0_3, a0_4, true)) else (some (0, 0, ([] : List (S132)), 0, 0, false))))) else (none)) else ((impl_FlySpans.f k a0_0 a0_1 y387 (mx a0_3 (wrap64 (a4 + 1))) a0_4).bind fun bt394 => (if bt394.2 = true then (some (a0_0, a0_1, y387, mx a0_3 (wrap64 (a4 + 1)), a0_4, true)) else (some (0, 0, ([] : List (S132)), 0, 0, false))))))) else (none))) else (none))) else (none)) else (none)) = some (r1, r2, r3, r4, r5, r6) := h
 clear h
 by_cases c6 : 0 ≤ a1
 rotate_left
 ·rw [if_neg c6] at H
  exact absurd H (by simp)
 rw [if_pos c6] at H
 have c6b0 := eq_true c6
 have c6b1 : decide (0 ≤ a1) = true := decide_eq_true c6
 clear c6
 by_cases c7 : a1 ≤ (l0_2.length : Int)
 rotate_left
 ·rw [if_neg c7] at H
  exact absurd H (by simp)
 rw [if_pos c7] at H
 have c7b0 := eq_true c7
 have c7b1 : decide (a1 ≤ (l0_2.length : Int)) = true := decide_eq_true c7
 clear c7
 obtain ⟨y378, hy378⟩ : ∃ y_ : List (S132), y_ = (l0_2.drop (a1 : Int).toNat) := ⟨_, rfl⟩
 replace H : (if ([] : List (S132)).length + y378.length < 2513169434916 then ((some (([] : List (S132)) ++ y378 : List (S132))).bind fun y382 => (if 0 < (y382.length : Int) then ((some (y382.set (0 : Int).toNat (⟨(rd_T132 y382 0).f0, (rd_T132 y382 0).f1, (rd_T132 y382 0).f2, (rd_T132 y382 0).f3, a2, (rd_T132 y382 0).f5, (rd_T132 y382 0).f6⟩ : S132) : List (S132))).bind fun y386 => ((some (y386.set (0 : Int).toNat (⟨(rd_T132 y386 0).f0, (rd_T132 y386 0).f1, (rd_T132 y386 0).f2, (rd_T132 y386 0).f3, (rd_T132 y386 0).f4, a3, (rd_T132 y386 0).f6⟩ : S132) : List (S132))).bind fun y387 => (if (y382.length : Int) > 1 then (if 1 < (y382.length : Int) then ((some (y387.set (1 : Int).toNat (⟨(rd_T132 y387 1).f0, (rd_T132 y387 1).f1, (rd_T132 y387 1).f2, (rd_T132 y387 1).f3, mx ((rd_T132 y387 1).f4) (wrap64 (a4 + 1)), (rd_T132 y387 1).f5, (rd_T132 y387 1).f6⟩ : S132) : List (S132))).bind fun y389 => ((impl_FlySpans.f k a0_0 a0_1 y389 a0_3 a0_4).bind fun bt390 => (if bt390.2 = true then (some (a0_0, a0_1, y389, a0_3, a0_4, true)) else (some (0, 0, ([] : List (S132)), 0, 0, false))))) else (none)) else ((impl_FlySpans.f k a0_0 a0_1 y387 (mx a0_3 (wrap64 (a4 + 1))) a0_4).bind fun bt394 => (if bt394.2 = true then (some (a0_0, a0_1, y387, mx a0_3 (wrap64 (a4 + 1)), a0_4, true)) else (some (0, 0, ([] : List (S132)), 0, 0, false))))))) else (none))) else (none)) = some (r1, r2, r3, r4, r5, r6) := by first | (rw [hy378]; with_reducible exact H) | (have H2_ := (Option.bind_some _ _).symm.trans H; rw [hy378]; with_reducible exact H2_) | (have H2_ := (Option.bind_some _ _).symm.trans H; with_reducible exact H2_) | with_reducible exact H | (rw [hy378]; exact H) | exact H
 have Ny378 := zA hy378
 clear hy378
 by_cases c8 : ([] : List (S132)).length + y378.length < 2513169434916
 rotate_left
 ·rw [if_neg c8] at H
  exact absurd H (by simp)
 rw [if_pos c8] at H
 have LMc8 := zA c8
 clear c8
 obtain ⟨y382, hy382⟩ : ∃ y_ : List (S132), y_ = (([] : List (S132)) ++ y378) := ⟨_, rfl⟩
 replace H : (if 0 < (y382.length : Int) then ((some (y382.set (0 : Int).toNat (⟨(rd_T132 y382 0).f0, (rd_T132 y382 0).f1, (rd_T132 y382 0).f2, (rd_T132 y382 0).f3, a2, (rd_T132 y382 0).f5, (rd_T132 y382 0).f6⟩ : S132) : List (S132))).bind fun y386 => ((some (y386.set (0 : Int).toNat (⟨(rd_T132 y386 0).f0, (rd_T132 y386 0).f1, (rd_T132 y386 0).f2, (rd_T132 y386 0).f3, (rd_T132 y386 0).f4, a3, (rd_T132 y386 0).f6⟩ : S132) : List (S132))).bind fun y387 => (if (y382.length : Int) > 1 then (if 1 < (y382.length : Int) then ((some (y387.set (1 : Int).toNat (⟨(rd_T132 y387 1).f0, (rd_T132 y387 1).f1, (rd_T132 y387 1).f2, (rd_T132 y387 1).f3, mx ((rd_T132 y387 1).f4) (wrap64 (a4 + 1)), (rd_T132 y387 1).f5, (rd_T132 y387 1).f6⟩ : S132) : List (S132))).bind fun y389 => ((impl_FlySpans.f k a0_0 a0_1 y389 a0_3 a0_4).bind fun bt390 => (if bt390.2 = true then (some (a0_0, a0_1, y389, a0_3, a0_4, true)) else (some (0, 0, ([] : List (S132)), 0, 0, false))))) else (none)) else ((impl_FlySpans.f k a0_0 a0_1 y387 (mx a0_3 (wrap64 (a4 + 1))) a0_4).bind fun bt394 => (if bt394.2 = true then (some (a0_0, a0_1, y387, mx a0_3 (wrap64 (a4 + 1)), a0_4, true)) else (some (0, 0, ([] : List (S132)), 0, 0, false))))))) else (none)) = some (r1, r2, r3, r4, r5, r6) := by first | (rw [hy382]; with_reducible exact H) | (have H2_ := (Option.bind_some _ _).symm.trans H; rw [hy382]; with_reducible exact H2_) | (have H2_ := (Option.bind_some _ _).symm.trans H; with_reducible exact H2_) | with_reducible exact H | (rw [hy382]; exact H) | exact H
 have Ny382 := zA hy382
 clear hy382
 by_cases c9 : 0 < (y382.length : Int)
 rotate_left
 ·rw [if_neg c9] at H
  exact absurd H (by simp)
 rw [if_pos c9] at H
 have c9b0 : decide (0 < (y382.length : Int)) = true := decide_eq_true c9
 have c9b1 : decide (0 < y382.length) = true := decide_eq_true (by omega)
 clear c9
 obtain ⟨y386, hy386⟩ : ∃ y_ : List (S132), y_ = (y382.set (0 : Int).toNat (⟨(rd_T132 y382 0).f0, (rd_T132 y382 0).f1, (rd_T132 y382 0).f2, (rd_T132 y382 0).f3, a2, (rd_T132 y382 0).f5, (rd_T132 y382 0).f6⟩ : S132)) := ⟨_, rfl⟩
 replace H : ((some (y386.set (0 : Int).toNat (⟨(rd_T132 y386 0).f0, (rd_T132 y386 0).f1, (rd_T132 y386 0).f2, (rd_T132 y386 0).f3, (rd_T132 y386 0).f4, a3, (rd_T132 y386 0).f6⟩ : S132) : List (S132))).bind fun y387 => (if (y382.length : Int) > 1 then (if 1 < (y382.length : Int) then ((some (y387.set (1 : Int).toNat (⟨(rd_T132 y387 1).f0, (rd_T132 y387 1).f1, (rd_T132 y387 1).f2, (rd_T132 y387 1).f3, mx ((rd_T132 y387 1).f4) (wrap64 (a4 + 1)), (rd_T132 y387 1).f5, (rd_T132 y387 1).f6⟩ : S132) : List (S132))).bind fun y389 => ((impl_FlySpans.f k a0_0 a0_1 y389 a0_3 a0_4).bind fun bt390 => (if bt390.2 = true then (some (a0_0, a0_1, y389, a0_3, a0_4, true)) else (some (0, 0, ([] : List (S132)), 0, 0, false))))) else (none)) else ((impl_FlySpans.f k a0_0 a0_1 y387 (mx a0_3 (wrap64 (a4 + 1))) a0_4).bind fun bt394 => (if bt394.2 = true then (some (a0_0, a0_1, y387, mx a0_3 (wrap64 (a4 + 1)), a0_4, true)) else (some (0, 0, ([] : List (S132)), 0, 0, false)))))) = some (r1, r2, r3, r4, r5, r6) := by first | (rw [hy386]; with_reducible exact H) | (have H2_ := (Option.bind_some _ _).symm.trans H; rw [hy386]; with_reducible exact H2_) | (have H2_ := (Option.bind_some _ _).symm.trans H; with_reducible exact H2_) | with_reducible exact H | (rw [hy386]; exact H) | exact H
 have Ny386 := zA hy386
 clear hy386
 obtain ⟨y387, hy387⟩ : ∃ y_ : List (S132), y_ = (y386.set (0 : Int).toNat (⟨(rd_T132 y386 0).f0, (rd_T132 y386 0).f1, (rd_T132 y386 0).f2, (rd_T132 y386 0).f3, (rd_T132 y386 0).f4, a3, (rd_T132 y386 0).f6⟩ : S132)) := ⟨_, rfl⟩
 replace H : (if (y382.length : Int) > 1 then (if 1 < (y382.length : Int) then ((some (y387.set (1 : Int).toNat (⟨(rd_T132 y387 1).f0, (rd_T132 y387 1).f1, (rd_T132 y387 1).f2, (rd_T132 y387 1).f3, mx ((rd_T132 y387 1).f4) (wrap64 (a4 + 1)), (rd_T132 y387 1).f5, (rd_T132 y387 1).f6⟩ : S132) : List (S132))).bind fun y389 => ((impl_FlySpans.f k a0_0 a0_1 y389 a0_3 a0_4).bind fun bt390 => (if bt390.2 = true then (some (a0_0, a0_1, y389, a0_3, a0_4, true)) else (some (0, 0, ([] : List (S132)), 0, 0, false))))) else (none)) else ((impl_FlySpans.f k a0_0 a0_1 y387 (mx a0_3 (wrap64 (a4 + 1))) a0_4).bind fun bt394 => (if bt394.2 = true then (some (a0_0, a0_1, y387, mx a0_3 (wrap64 (a4 + 1)), a0_4, true)) else (some (0, 0, ([] : List (S132)), 0, 0, false))))) = some (r1, r2, r3, r4, r5, r6) := by first | (rw [hy387]; with_reducible exact H) | (have H2_ := (Option.bind_some _ _).symm.trans H; rw [hy387]; with_reducible exact H2_) | (have H2_ := (Option.bind_some _ _).symm.trans H; with_reducible exact H2_) | with_reducible exact H | (rw [hy387]; exact H) | exact H
 have Ny387 := zA hy387
 clear hy387
 by_cases c12 : (y382.length : Int) > 1
 rotate_left
 ·rw [if_neg c12] at H
  have c12b0 : decide (1 < (y382.length : Int)) = false := decide_eq_false c12
  have c12b1 : decide (1 < y382.length) = false := decide_eq_false (by omega)
  clear c12
  obtain ⟨ji77, hji77⟩ : ∃ j_ : Int, (mx a0_3 (wrap64 (a4 + 1))) = j_ := ⟨_, rfl⟩
  first | rw [hji77] at H | simp only [hji77] at H
  have hji77_ : (if a0_3 < (wrap64 (a4 + 1)) then (wrap64 (a4 + 1)) else a0_3) = ji77 := hji77
  replace H := Option.bind_eq_some_iff.mp H
  obtain ⟨⟨t394, t397⟩, A780, H⟩ := H
  replace H : (if t397 = true then (some (a0_0, a0_1, y387, ji77, a0_4, true)) else (some (0, 0, ([] : List (S132)), 0, 0, false))) = some (r1, r2, r3, r4, r5, r6) := H
  have A78 := zA A780
  clear A780
  by_cases c79 : t397 = true
  rotate_left
  ·replace c79 := Bool.eq_false_iff.mpr c79
   subst c79
   have H1 : (some (0, 0, ([] : List (S132)), 0, 0, false)) = some (r1, r2, r3, r4, r5, r6) := by rw [if_neg (show ¬ (false = true) by decide)] at H; exact H
   clear H
   have H := H1
   clear H1
   simp only [Option.some.injEq, Prod.mk.injEq] at H
   obtain ⟨rfl, rfl, rfl, rfl, rfl, rfl⟩ := H
   go_enter Try.func133, Try.ntmps133
   try go_wp2_with (first | ((with_reducible refine gate_dst (N := 5) rfl ?_); refine zbx 5 #[.int .i64 a0_0, .int .i64 a0_1, .slice A0_2 l0_2.length c0_2, .int .i64 a0_3, .int .i64 a0_4] 68 ?_; intro gb376 hg w106 hbox hb; have BK376 := zA hbox; have GW376 := zgs hg (zs0 HB); have GE376 := zgs hg (zs0 HB); replace HB := zE (zs0 HB) hb; clear hb hbox hg) | ((with_reducible refine gate_dst (N := 10) rfl ?_); refine zbx 10 #[.int .i64 0, .int .i64 0, .slice none 0 0, .int .i64 0, .int .i64 0] 68 ?_; intro gb377 hg w107 hbox hb; have BK377 := zA hbox; have GW377 := zgs hg (zs1 HB GE376); have GE377 := zgs hg (zs1 HB GE376); have NB376_377 := zne hg BK376; have NB377_376 := znf hg BK376; replace BK376 := zb BK376 hb; replace HB := zE (zs1 HB GE376) hb; clear hb hbox hg))
   replace BK376 := zA (blk_drew BK376.out)
   replace BK377 := zA (blk_drew BK377.out)
   replace HB := zA (below_drew1 HB.out)
   have q109 : (a1 : Int) ≤ ((l0_2.length : Int) : Int) := za
   obtain ⟨i0109, hi0109, _, hsz109, _⟩ := info_parts info132
   have hroom109 : l0_2.length ≤ c0_2 := HC0_2.out
   have hC109 : Kd.C k132 _ A0_2 l0_2.length l0_2 := HR0_2.out
   have q0109 : (0 : Int) ≤ (a1 : Int) := za
   have hcut109 := cut_from (P := Try.prog) 66 132 .i64 Try.underlying66 hi0109 7 hsz109 A0_2 l0_2.length c0_2 a1 q0109 q109
   have hr109 := Kd.C_drop (m := (a1 : Int).toNat) (c := c0_2) hC109 (by omega) hroom109
   obtain ⟨A109, hA109⟩ : ∃ A1, A1 = (if c0_2 = (a1 : Int).toNat then A0_2 else (A0_2 : Option Addr).map (·.add ((a1 : Int).toNat * 7))) := ⟨_, rfl⟩
   obtain ⟨c109, hc109⟩ : ∃ c1, c1 = c0_2 - (a1 : Int).toNat := ⟨_, rfl⟩
   have hy109 : y378.length = l0_2.length - (a1 : Int).toNat := (by rw [Ny378.out, List.length_drop] <;> omega)
   rw [show (l0_2).drop (a1 : Int).toNat = y378 from Ny378.out.symm] at hr109
   replace hr109 : Kd.C k132 _ A109 y378.length y378 := (by rw [hA109]; exact hr109)
   rw [← hy109, ← hA109, ← hc109] at hcut109
   have HR381 := zA hr109
   have HC381 := zA (show y378.length ≤ c109 from by rw [hy109, hc109]; exact Nat.sub_le_sub_right hroom109 _)
   clear hr109 hC109 hroom109 hi0109 hsz109 hc109
   have KY109 := zA hy109
   have KA109 := zA hA109
   clear hy109 hA109
   replace q109 := eq_true q109
   refine start_ (n := 14) (S := fun w' => w'.cell? ⟨gb376, 0, none⟩ = some (.int .i64 a0_0) ∧ w'.cell? ⟨gb376, 1, none⟩ = some (.int .i64 a0_1) ∧ w'.cell? ⟨gb376, 2, none⟩ = some (.slice A0_2 l0_2.length c0_2) ∧ w'.cell? ⟨gb376, 3, none⟩ = some (.int .i64 a0_3) ∧ w'.cell? ⟨gb376, 4, none⟩ = some (.int .i64 a0_4)) (ds := []) #[F,F,F,F,F,F,F,F,F,F,F,F,F,F] (by kernel_rfl) rfl rfl ⟨zc0 BK376, zc1 BK376, zc2 BK376, zc3 BK376, zc4 BK376⟩ (fun hHeld => ?_); refine with_tabW impl_FlyPath_rest.tab1 impl_FlyPath_rest.bits1 (fun HT_ HW_ => ?_)
   generalize w107.drew = w108 at BK376 BK377 HB HR381 hHeld ⊢
   refine zq HT_ 0 ?_
   refine zq HT_ 2 ?_
   refine zq HT_ 4 ?_
   refine zq HT_ 7 ?_
   refine zq HT_ 9 ?_
   refine zk5 HT_ HW_ hHeld 1 ?_
   refine zk5 HT_ HW_ hHeld 3 ?_
   refine zq HT_ 5 ?_
   refine zk5 HT_ HW_ hHeld 8 ?_
   refine zk5 HT_ HW_ hHeld 10 ?_
   refine join_ (σ := Value × Nat) 1 #[T,T,T,T,T,T,T,T,T,T,T,T,T,F] (fun s_ => [(21, s_.1), (12, .pointer (some ⟨s_.2, 0, none⟩)), (26, .agg #[.int .i64 a0_0, .int .i64 a0_1, s_.1, .int .i64 a0_3, .int .i64 a0_4])]) (fun s_ w' => (w'.cell? ⟨gb376, 0, none⟩ = some (.int .i64 a0_0) ∧ w'.cell? ⟨gb376, 1, none⟩ = some (.int .i64 a0_1) ∧ w'.cell? ⟨gb376, 2, none⟩ = some (.slice A0_2 l0_2.length c0_2) ∧ w'.cell? ⟨gb376, 3, none⟩ = some (.int .i64 a0_3) ∧ w'.cell? ⟨gb376, 4, none⟩ = some (.int .i64 a0_4)) ∧ (Kd.R k132 132 w' w.heap.size (fun _ => True) s_.1 y382) ∧ (w'.heap[gb376]? = some (.cells #[.int .i64 a0_0, .int .i64 a0_1, .slice A0_2 l0_2.length c0_2, .int .i64 a0_3, .int .i64 a0_4] 68 (0, 0))) ∧ (w'.heap[gb377]? = some (.cells #[.int .i64 0, .int .i64 0, .slice none 0 0, .int .i64 0, .int .i64 0] 68 (0, 0))) ∧ (w'.heap[s_.2]? = some (.cells #[.int .i64 0, .int .i64 0, .slice none 0 0, .int .i64 0, .int .i64 0] 68 (0, 0))) ∧ (w.heap.size ≤ s_.2) ∧ (w.heap.size ≤ s_.2) ∧ (gb376 ≠ s_.2) ∧ (s_.2 ≠ gb376) ∧ (gb377 ≠ s_.2) ∧ (s_.2 ≠ gb377) ∧ (Below w.heap.size w w')) ?_ ?_
   rotate_left
   ·intro hCont
    refine two_ (i := 6) (j := 12) (Ni := some 21) (Nj := some 12) #[T,T,T,T,T,T,T,T,T,T,T,F,F,F] #[T,T,T,T,T,T,F,T,T,T,T,F,T,F] rfl rfl rfl rfl (two_of HT_.out (by kernel_rfl)) (by decide) (by decide) (fun K hK => ?_) (fun K hK => ?_)
    ·skip
     refine Kd.R_append_rows_step k132 (w0 := w) w.heap.size rfl (.const (.slice none 0 0)) (.tmp 20) 66 132 (.agg #[(.int .i64 0), (.int .i64 0), (.int .i64 0), (.int .i64 0), (.int .i64 0), (.int .i64 0), (.bool false)]) 56 rfl Try.underlying66 info132 rfl (by decide) (by omega) (.slice none 0 0) ([] : List (S132)) y378 _ _ _ (fun _ => True) (fun _ => False) rfl rfl ?aO ?aR (fun _ _ h => h) (fun _ h => h.elim) ?aF ?aB ?aS ?aL ?_
     (case aR => repeat (first | exact (Kd.C_below HR381.out HB.out) | (with_reducible refine Kd.C_alloc ?_ _) | (with_reducible refine Kd.C_drewN ?_ _) | (with_reducible refine Kd.C_drew ?_)))
     (case aB => exact (zs2 HB GE376 GE377))
     (case aF => exact (fun _ _ => trivial))
     (case aO => exact ((Kd.R_nil _ _ _ _ (fun _ => True))))
     (case aS => exact (below_size (zs2 HB GE376 GE377)))
     (case aL => have := LMc8.out; omega)
     intro v383 w110 ho hb hg hat
     rw [← Ny382.out] at ho
     have HO384 := zA (ho)
     replace BK376 := zA (blk_grown (g := gb376) (o := .cells #[.int .i64 a0_0, .int .i64 a0_1, .slice A0_2 l0_2.length c0_2, .int .i64 a0_3, .int .i64 a0_4] 68 (0, 0)) (zh BK376) hg (by simp [Value.ownBlock]))
     replace BK377 := zA (blk_grown (g := gb377) (o := .cells #[.int .i64 0, .int .i64 0, .slice none 0 0, .int .i64 0, .int .i64 0] 68 (0, 0)) (zh BK377) hg (by simp [Value.ownBlock]))
     replace HB := zA (hb)
     clear ho hb hg hat
     obtain ⟨Ao111, co111, eo111⟩ := Kd.R_slice HO384.out
     (first | subst eo111 | (injection eo111 with f1_ f2_ f3_; have f4_ := f1_.symm; have f5_ := f3_.symm; clear f1_ f2_ f3_; subst f4_; subst f5_))
     refine hK.out _ _ ⟨zc0 BK376, zc1 BK376, zc2 BK376, zc3 BK376, zc4 BK376⟩ (fun hHeld => ?_)
     clear hK K
     refine zN ?_
     refine zq HT_ 11 ?_
     refine zo HT_ 12 (fun K hK => ?_)
     refine box_step (by rfl) (N := 12) (by rfl) (cs := #[.int .i64 0, .int .i64 0, .slice none 0 0, .int .i64 0, .int .i64 0]) (t := 68) zg ?_
     intro gb385 hg w112 hbox hb
     have BK385 := zA hbox
     have GW385 := zgs hg (zs2 HB GE376 GE377)
     have GE385 := zgs hg (zs2 HB GE376 GE377)
     have NB376_385 := zne hg BK376
     have NB385_376 := znf hg BK376
     have NB377_385 := zne hg BK377
     have NB385_377 := znf hg BK377
     replace HO384 := zA (Kd.R_below (zr HO384) hb)
     replace BK376 := zb BK376 hb
     replace BK377 := zb BK377 hb
     replace HB := zE (zs2 HB GE376 GE377) hb
     clear hb hbox hg
     refine hK.out _ _ ⟨zc0 BK376, zc1 BK376, zc2 BK376, zc3 BK376, zc4 BK376⟩ (fun hHeld => ?_)
     clear hK K
     refine zN ?_
     exact norm_ (by simp only [putAll, Act.put, List.setIfInBounds_toArray, List.set_cons_zero, List.set_cons_succ]) (hCont (.slice Ao111 y382.length co111, gb385) _ ⟨hHeld, (zr HO384), (zh BK376), (zh BK377), (zh BK385), GW385.out, GE385.out, NB376_385.out, NB385_376.out, NB377_385.out, NB385_377.out, (zs3 HB GE376 GE377 GE385)⟩)
    ·skip
     refine box_step (by rfl) (N := 12) (by rfl) (cs := #[.int .i64 0, .int .i64 0, .slice none 0 0, .int .i64 0, .int .i64 0]) (t := 68) zg ?_
     intro gb385 hg w110 hbox hb
     have BK385 := zA hbox
     have GW385 := zgs hg (zs2 HB GE376 GE377)
     have GE385 := zgs hg (zs2 HB GE376 GE377)
     have NB376_385 := zne hg BK376
     have NB385_376 := znf hg BK376
     have NB377_385 := zne hg BK377
     have NB385_377 := znf hg BK377
     replace BK376 := zb BK376 hb
     replace BK377 := zb BK377 hb
     replace HB := zE (zs2 HB GE376 GE377) hb
     clear hb hbox hg
     refine hK.out _ _ ⟨zc0 BK376, zc1 BK376, zc2 BK376, zc3 BK376, zc4 BK376⟩ (fun hHeld => ?_)
     clear hK K
     refine zN ?_
     refine zo HT_ 6 (fun K hK => ?_)
     refine Kd.R_append_rows_step k132 (w0 := w) w.heap.size rfl (.const (.slice none 0 0)) (.tmp 20) 66 132 (.agg #[(.int .i64 0), (.int .i64 0), (.int .i64 0), (.int .i64 0), (.int .i64 0), (.int .i64 0), (.bool false)]) 56 rfl Try.underlying66 info132 rfl (by decide) (by omega) (.slice none 0 0) ([] : List (S132)) y378 _ _ _ (fun _ => True) (fun _ => False) rfl rfl ?aO ?aR (fun _ _ h => h) (fun _ h => h.elim) ?aF ?aB ?aS ?aL ?_
     (case aR => repeat (first | exact (Kd.C_below HR381.out HB.out) | (with_reducible refine Kd.C_alloc ?_ _) | (with_reducible refine Kd.C_drewN ?_ _) | (with_reducible refine Kd.C_drew ?_)))
     (case aB => exact (zs3 HB GE376 GE377 GE385))
     (case aF => exact (fun _ _ => trivial))
     (case aO => exact ((Kd.R_nil _ _ _ _ (fun _ => True))))
     (case aS => exact (below_size (zs3 HB GE376 GE377 GE385)))
     (case aL => have := LMc8.out; omega)
     intro v383 w111 ho hb hg hat
     rw [← Ny382.out] at ho
     have HO384 := zA (ho)
     replace BK376 := zA (blk_grown (g := gb376) (o := .cells #[.int .i64 a0_0, .int .i64 a0_1, .slice A0_2 l0_2.length c0_2, .int .i64 a0_3, .int .i64 a0_4] 68 (0, 0)) (zh BK376) hg (by simp [Value.ownBlock]))
     replace BK377 := zA (blk_grown (g := gb377) (o := .cells #[.int .i64 0, .int .i64 0, .slice none 0 0, .int .i64 0, .int .i64 0] 68 (0, 0)) (zh BK377) hg (by simp [Value.ownBlock]))
     replace BK385 := zA (blk_grown (g := gb385) (o := .cells #[.int .i64 0, .int .i64 0, .slice none 0 0, .int .i64 0, .int .i64 0] 68 (0, 0)) (zh BK385) hg (by simp [Value.ownBlock]))
     replace HB := zA (hb)
     clear ho hb hg hat
     obtain ⟨Ao112, co112, eo112⟩ := Kd.R_slice HO384.out
     (first | subst eo112 | (injection eo112 with f1_ f2_ f3_; have f4_ := f1_.symm; have f5_ := f3_.symm; clear f1_ f2_ f3_; subst f4_; subst f5_))
     refine hK.out _ _ ⟨zc0 BK376, zc1 BK376, zc2 BK376, zc3 BK376, zc4 BK376⟩ (fun hHeld => ?_)
     clear hK K
     refine zN ?_
     refine zq HT_ 11 ?_
     exact norm_ (by simp only [putAll, Act.put, List.setIfInBounds_toArray, List.set_cons_zero, List.set_cons_succ]) (hCont (.slice Ao112 y382.length co112, gb385) _ ⟨hHeld, (zr HO384), (zh BK376), (zh BK377), (zh BK385), GW385.out, GE385.out, NB376_385.out, NB385_376.out, NB377_385.out, NB385_377.out, (zs3 HB GE376 GE377 GE385)⟩)
   rintro ⟨v383, gb385⟩ w113 ⟨hS_, h0_, h1_, h2_, h3_, h4_, h5_, h6_, h7_, h8_, h9_, h10_⟩
   have HO384 : Aside0 (Kd.R k132 132 w113 w.heap.size (fun _ => True) v383 y382) := ⟨h0_⟩
   have BK385 : Aside0 (w113.heap[gb385]? = some (.cells #[.int .i64 0, .int .i64 0, .slice none 0 0, .int .i64 0, .int .i64 0] 68 (0, 0))) := ⟨h3_⟩
   have GW385 : Aside0 (w.heap.size ≤ gb385) := ⟨h4_⟩
   have GE385 : Aside0 (w.heap.size ≤ gb385) := ⟨h5_⟩
   have NB376_385 : Aside0 (gb376 ≠ gb385) := ⟨h6_⟩
   have NB385_376 : Aside0 (gb385 ≠ gb376) := ⟨h7_⟩
   have NB377_385 : Aside0 (gb377 ≠ gb385) := ⟨h8_⟩
   have NB385_377 : Aside0 (gb385 ≠ gb377) := ⟨h9_⟩
   replace BK376 : Aside0 (w113.heap[gb376]? = some (.cells #[.int .i64 a0_0, .int .i64 a0_1, .slice A0_2 l0_2.length c0_2, .int .i64 a0_3, .int .i64 a0_4] 68 (0, 0))) := ⟨h1_⟩
   replace BK377 : Aside0 (w113.heap[gb377]? = some (.cells #[.int .i64 0, .int .i64 0, .slice none 0 0, .int .i64 0, .int .i64 0] 68 (0, 0))) := ⟨h2_⟩
   replace HB : Aside0 (Below w.heap.size w w113) := ⟨h10_⟩
   clear h0_ h1_ h2_ h3_ h4_ h5_ h6_ h7_ h8_ h9_ h10_
   have hHeld : w113.cell? ⟨gb376, 0, none⟩ = some (.int .i64 a0_0) ∧ w113.cell? ⟨gb376, 1, none⟩ = some (.int .i64 a0_1) ∧ w113.cell? ⟨gb376, 2, none⟩ = some (.slice A0_2 l0_2.length c0_2) ∧ w113.cell? ⟨gb376, 3, none⟩ = some (.int .i64 a0_3) ∧ w113.cell? ⟨gb376, 4, none⟩ = some (.int .i64 a0_4) := hS_
   obtain ⟨Ao114, co114, eo114⟩ := Kd.R_slice HO384.out
   (first | subst eo114 | (injection eo114 with f1_ f2_ f3_; have f4_ := f1_.symm; have f5_ := f3_.symm; clear f1_ f2_ f3_; subst f4_; subst f5_))
   refine norm_ (a' := ?_) ?_ ?_
   rotate_left
   ·simp only [putAll, Act.put, List.setIfInBounds_toArray, List.set_cons_zero, List.set_cons_succ]
    rfl
   refine zo HT_ 13 (fun K hK => ?_)
   have hs115 : w113.cell? ⟨gb385, 0, none⟩ = some (.int .i64 0) := zc0 BK385
   have hfs115 := zf BK385 0
   have hns115_0 := NB376_385.out
   have hns115_1 := NB377_385.out
   have hms115_0 := NB385_376.out
   have hms115_1 := NB385_377.out
   have hs116 : w113.cell? ⟨gb385, 1, none⟩ = some (.int .i64 0) := zc1 BK385
   have hfs116 := zf BK385 1
   have hns116_0 := NB376_385.out
   have hns116_1 := NB377_385.out
   have hms116_0 := NB385_376.out
   have hms116_1 := NB385_377.out
   have hs117 : w113.cell? ⟨gb385, 2, none⟩ = some (.slice none 0 0) := zc2 BK385
   have hfs117 := zf BK385 2
   have hns117_0 := NB376_385.out
   have hns117_1 := NB377_385.out
   have hms117_0 := NB385_376.out
   have hms117_1 := NB385_377.out
   have hs118 : w113.cell? ⟨gb385, 3, none⟩ = some (.int .i64 0) := zc3 BK385
   have hfs118 := zf BK385 3
   have hns118_0 := NB376_385.out
   have hns118_1 := NB377_385.out
   have hms118_0 := NB385_376.out
   have hms118_1 := NB385_377.out
   have hs119 : w113.cell? ⟨gb385, 4, none⟩ = some (.int .i64 0) := zc4 BK385
   have hfs119 := zf BK385 4
   have hns119_0 := NB376_385.out
   have hns119_1 := NB377_385.out
   have hms119_0 := NB385_376.out
   have hms119_1 := NB385_377.out
   refine skip_ (w1 := ?_) (by rfl) rfl ?_ ?_
   rotate_left
   ·go_simp
    rfl
   refine hK.out _ _ (zcf hHeld NB376_385) (fun hHeld => ?_)
   clear hK K
   refine done_ (done_of HT_.out (by kernel_rfl)) ?_
   try go_wp2
   obtain ⟨w120, e_⟩ : ∃ x, x = (((((w113.setCell ⟨gb385, 0, none⟩ (.int .i64 a0_0)).setCell ⟨gb385, 1, none⟩ (.int .i64 a0_1)).setCell ⟨gb385, 2, none⟩ (.slice Ao114 y382.length co114)).setCell ⟨gb385, 3, none⟩ (.int .i64 a0_3)).setCell ⟨gb385, 4, none⟩ (.int .i64 a0_4)) := ⟨_, rfl⟩
   have n0_ : Aside0 (Kd.R k132 132 w120 w.heap.size (fun _ => True) (.slice Ao114 y382.length co114) y382) := by rw [e_]; exact ⟨zRf HO384 BK385 (fun _ hk => trivial)⟩
   have n1_ : Aside0 (w120.heap[gb376]? = some (.cells #[.int .i64 a0_0, .int .i64 a0_1, .slice A0_2 l0_2.length c0_2, .int .i64 a0_3, .int .i64 a0_4] 68 (0, 0))) := by rw [e_]; exact ⟨zpf BK376 NB376_385⟩
   have n2_ : Aside0 (w120.heap[gb377]? = some (.cells #[.int .i64 0, .int .i64 0, .slice none 0 0, .int .i64 0, .int .i64 0] 68 (0, 0))) := by rw [e_]; exact ⟨zpf BK377 NB377_385⟩
   have n3_ : Aside0 (w120.heap[gb385]? = some (.cells #[.int .i64 a0_0, .int .i64 a0_1, .slice Ao114 y382.length co114, .int .i64 a0_3, .int .i64 a0_4] 68 (0, 0))) := by rw [e_]; exact ⟨zpb BK385⟩
   have n4_ : Aside0 (Below w.heap.size w w120) := by rw [e_]; exact ⟨zs3 HB GE376 GE377 GE385⟩
   (try clear HO384)
   (try clear BK376)
   (try clear BK377)
   (try clear BK385)
   (try clear HB)
   rw [← e_]; clear e_
   have HO384 := n0_
   have BK376 := n1_
   have BK377 := n2_
   have BK385 := n3_
   have HB := n4_
   clear n0_ n1_ n2_ n3_ n4_
   replace HO384 := zA (Kd.R_drew HO384.out)
   replace BK376 := zA (blk_drew BK376.out)
   replace BK377 := zA (blk_drew BK377.out)
   replace BK385 := zA (blk_drew BK385.out)
   replace HB := zA (below_drew1 HB.out)
   have p10 : 0 ≤ (0 : Int) := (by omega)
   have q10 : (0 : Int) < ((y382.length : Int) : Int) := za
   have qi10 : (0 < y382.length) = True := eq_true (by omega)
   obtain ⟨go10, co10, eo10, gb10, gl10, cl10, HG10⟩ := Kd.R_form HO384.out (by omega)
   (first | cases eo10 | (injection eo10 with ea_ en_ ec_; (first | subst ea_ | (injection ea_ with ea_; subst ea_)); subst ec_; clear en_))
   have GB10 := zA gb10
   have GG10 := zA HG10
   clear gb10 gl10 HG10
   obtain ⟨ce10, hcl10, hM10, hcc10, hfr10⟩ := Kd.R_elem HO384.out z132 (0 : Int) p10 q10
   obtain rfl := k132_openM hM10
   have hx10_0 : World.cell? _ ⟨go10, (0 : Int).toNat * 7, none⟩ = some (.int .i64 ((rd_T132 y382 0).f0)) := hcc10 0 _ rfl
   have hx10_1 : World.cell? _ ⟨go10, (0 : Int).toNat * 7 + 1, none⟩ = some (.int .i64 ((rd_T132 y382 0).f1)) := hcc10 1 _ rfl
   have hx10_2 : World.cell? _ ⟨go10, (0 : Int).toNat * 7 + 2, none⟩ = some (.int .i64 ((rd_T132 y382 0).f2)) := hcc10 2 _ rfl
   have hx10_3 : World.cell? _ ⟨go10, (0 : Int).toNat * 7 + 3, none⟩ = some (.int .i64 ((rd_T132 y382 0).f3)) := hcc10 3 _ rfl
   have hx10_4 : World.cell? _ ⟨go10, (0 : Int).toNat * 7 + 4, none⟩ = some (.int .i64 ((rd_T132 y382 0).f4)) := hcc10 4 _ rfl
   have hx10_5 : World.cell? _ ⟨go10, (0 : Int).toNat * 7 + 5, none⟩ = some (.int .i64 ((rd_T132 y382 0).f5)) := hcc10 5 _ rfl
   have hx10_6 : World.cell? _ ⟨go10, (0 : Int).toNat * 7 + 6, none⟩ = some (.bool ((rd_T132 y382 0).f6)) := hcc10 6 _ rfl
   have hf10_0 : World.frozen? _ ⟨go10, (0 : Int).toNat * 7, none⟩ = false := hfr10 0
   have hf10_1 : World.frozen? _ ⟨go10, (0 : Int).toNat * 7 + 1, none⟩ = false := hfr10 1
   have hf10_2 : World.frozen? _ ⟨go10, (0 : Int).toNat * 7 + 2, none⟩ = false := hfr10 2
   have hf10_3 : World.frozen? _ ⟨go10, (0 : Int).toNat * 7 + 3, none⟩ = false := hfr10 3
   have hf10_4 : World.frozen? _ ⟨go10, (0 : Int).toNat * 7 + 4, none⟩ = false := hfr10 4
   have hf10_5 : World.frozen? _ ⟨go10, (0 : Int).toNat * 7 + 5, none⟩ = false := hfr10 5
   have hf10_6 : World.frozen? _ ⟨go10, (0 : Int).toNat * 7 + 6, none⟩ = false := hfr10 6
   clear hcl10 hcc10 hfr10 hM10
   (try rw [zi0] at hx10_0)
   (try simp only [Nat.zero_mul, Nat.zero_add] at hx10_0)
   (try rw [zi0] at hf10_0)
   (try simp only [Nat.zero_mul, Nat.zero_add] at hf10_0)
   (try rw [zi0] at hx10_1)
   (try simp only [Nat.zero_mul, Nat.zero_add] at hx10_1)
   (try rw [zi0] at hf10_1)
   (try simp only [Nat.zero_mul, Nat.zero_add] at hf10_1)
   (try rw [zi0] at hx10_2)
   (try simp only [Nat.zero_mul, Nat.zero_add] at hx10_2)
   (try rw [zi0] at hf10_2)
   (try simp only [Nat.zero_mul, Nat.zero_add] at hf10_2)
   (try rw [zi0] at hx10_3)
   (try simp only [Nat.zero_mul, Nat.zero_add] at hx10_3)
   (try rw [zi0] at hf10_3)
   (try simp only [Nat.zero_mul, Nat.zero_add] at hf10_3)
   (try rw [zi0] at hx10_4)
   (try simp only [Nat.zero_mul, Nat.zero_add] at hx10_4)
   (try rw [zi0] at hf10_4)
   (try simp only [Nat.zero_mul, Nat.zero_add] at hf10_4)
   (try rw [zi0] at hx10_5)
   (try simp only [Nat.zero_mul, Nat.zero_add] at hx10_5)
   (try rw [zi0] at hf10_5)
   (try simp only [Nat.zero_mul, Nat.zero_add] at hf10_5)
   (try rw [zi0] at hx10_6)
   (try simp only [Nat.zero_mul, Nat.zero_add] at hx10_6)
   (try rw [zi0] at hf10_6)
   (try simp only [Nat.zero_mul, Nat.zero_add] at hf10_6)
   replace p10 := eq_true p10
   replace q10 := eq_true q10
   obtain ⟨ce122, hcl122, hM122, hcc122, hfr122⟩ := Kd.R_elem HO384.out z132 (0 : Int) (by omega) (by have h_ : (0 : Int) < ((y382.length : Int) : Int) := za; first | exact h_ | (have e_ := (Kd.R_reads' HO384.out).1; omega) | simpa using h_)
   obtain rfl := k132_openM hM122
   have HP122 := (Kd.R_seg HO384.out (0 : Int) (by omega) (by have h_ : (0 : Int) < ((y382.length : Int) : Int) := za; first | exact h_ | (have e_ := (Kd.R_reads' HO384.out).1; omega) | simpa using h_) (seg := [.int .i64 a2]) (j := 4) hcl122 hcc122 (show 5 ≤ 7 from by decide) (x' := (⟨(rd_T132 y382 0).f0, (rd_T132 y382 0).f1, (rd_T132 y382 0).f2, (rd_T132 y382 0).f3, a2, (rd_T132 y382 0).f5, (rd_T132 y382 0).f6⟩ : S132)) (k132_mkM _ _ _ (⟨(rd_T132 y382 0).f0, (rd_T132 y382 0).f1, (rd_T132 y382 0).f2, (rd_T132 y382 0).f3, a2, (rd_T132 y382 0).f5, (rd_T132 y382 0).f6⟩ : S132) ) (fun _ hk => hk)).1
   rw [← Ny386.out] at HP122
   have HQ122 := zA HP122
   clear hcl122 hcc122 hfr122 hM122 HP122
   have p11 : 0 ≤ (0 : Int) := (by omega)
   have q11 : (0 : Int) < ((y382.length : Int) : Int) := za
   replace p11 := eq_true p11
   replace q11 := eq_true q11
   obtain ⟨ce123, hcl123, hM123, hcc123, hfr123⟩ := Kd.R_elem HQ122.out z132 (0 : Int) (by omega) (by have h_ : (0 : Int) < ((y382.length : Int) : Int) := za; first | exact h_ | (have e_ := (Kd.R_reads' HO384.out).1; omega) | simpa using h_)
   obtain rfl := k132_openM hM123
   have HP123 := (Kd.R_seg HQ122.out (0 : Int) (by omega) (by have h_ : (0 : Int) < ((y382.length : Int) : Int) := za; first | exact h_ | (have e_ := (Kd.R_reads' HO384.out).1; omega) | simpa using h_) (seg := [.int .i64 a3]) (j := 5) hcl123 hcc123 (show 6 ≤ 7 from by decide) (x' := (⟨(rd_T132 y386 0).f0, (rd_T132 y386 0).f1, (rd_T132 y386 0).f2, (rd_T132 y386 0).f3, (rd_T132 y386 0).f4, a3, (rd_T132 y386 0).f6⟩ : S132)) (k132_mkM _ _ _ (⟨(rd_T132 y386 0).f0, (rd_T132 y386 0).f1, (rd_T132 y386 0).f2, (rd_T132 y386 0).f3, (rd_T132 y386 0).f4, a3, (rd_T132 y386 0).f6⟩ : S132) ) (fun _ hk => hk)).1
   rw [← Ny387.out] at HP123
   have HQ123 := zA HP123
   clear hcl123 hcc123 hfr123 hM123 HP123
   refine start_ (n := 12) (S := fun w' => w'.cell? ⟨gb385, 0, none⟩ = some (.int .i64 a0_0) ∧ w'.cell? ⟨gb385, 1, none⟩ = some (.int .i64 a0_1) ∧ w'.cell? ⟨gb385, 2, none⟩ = some (.slice (some ⟨go10, 0, none⟩) y382.length co114) ∧ w'.cell? ⟨gb385, 3, none⟩ = some (.int .i64 a0_3) ∧ w'.cell? ⟨gb385, 4, none⟩ = some (.int .i64 a0_4)) (ds := [11]) #[F,F,F,F,F,F,F,F,F,F,F,F] (by kernel_rfl) rfl rfl ⟨zc0 BK385, zc1 BK385, zc2 BK385, zc3 BK385, zc4 BK385⟩ (fun hHeld => ?_); refine with_tabW impl_FlyPath_rest.tab2 impl_FlyPath_rest.bits2 (fun HT_ HW_ => ?_)
   generalize w120.drew = w121 at HO384 BK376 BK377 BK385 HB GG10 HQ122 HQ123 hf10_0 hf10_1 hf10_2 hf10_3 hf10_4 hf10_5 hf10_6 hx10_0 hx10_1 hx10_2 hx10_3 hx10_4 hx10_5 hx10_6 hHeld ⊢
   refine zq HT_ 0 ?_
   refine zq HT_ 2 ?_
   refine zq HT_ 4 ?_
   refine zq HT_ 5 ?_
   refine zk5 HT_ HW_ hHeld 1 ?_
   refine zq HT_ 6 ?_
   refine zq HT_ 7 ?_
   refine zk5 HT_ HW_ hHeld 3 ?_
   refine zo HT_ 8 (fun K hK => ?_)
   refine skip_ (w1 := ?_) (by rfl) rfl ?_ ?_
   rotate_left
   ·go_simp
    rfl
   refine hK.out _ _ ⟨((cell_far (p := ⟨go10, _, none⟩) (by have h_ := Kd.R_ne (HO384.out) BK385.out (by decide); exact fun e_ => h_ (congrArg some e_)) _).trans (hHeld.1)), ((cell_far (p := ⟨go10, _, none⟩) (by have h_ := Kd.R_ne (HO384.out) BK385.out (by decide); exact fun e_ => h_ (congrArg some e_)) _).trans (hHeld.2.1)), ((cell_far (p := ⟨go10, _, none⟩) (by have h_ := Kd.R_ne (HO384.out) BK385.out (by decide); exact fun e_ => h_ (congrArg some e_)) _).trans (hHeld.2.2.1)), ((cell_far (p := ⟨go10, _, none⟩) (by have h_ := Kd.R_ne (HO384.out) BK385.out (by decide); exact fun e_ => h_ (congrArg some e_)) _).trans (hHeld.2.2.2.1)), ((cell_far (p := ⟨go10, _, none⟩) (by have h_ := Kd.R_ne (HO384.out) BK385.out (by decide); exact fun e_ => h_ (congrArg some e_)) _).trans (hHeld.2.2.2.2))⟩ (fun hHeld => ?_)
   clear hK K
   refine zq HT_ 9 ?_
   refine zq HT_ 10 ?_
   refine zO HT_ 11 (fun K hK => ?_)
   refine skip_ (w1 := ?_) (by rfl) rfl ?_ ?_
   rotate_left
   ·go_simp
    rfl
   refine hK.out _ _ ?_
   clear hK K
   refine done_ (done_of HT_.out (by kernel_rfl)) ?_
   obtain ⟨w124, e_⟩ : ∃ x, x = ((w121.setCell ⟨go10, 4, none⟩ (.int .i64 a2)).setCell ⟨go10, 5, none⟩ (.int .i64 a3)) := ⟨_, rfl⟩
   have n0_ : Aside0 (Kd.R k132 132 w124 w.heap.size (fun _ => True) (.slice (some ⟨go10, 0, none⟩) y382.length co114) y387) := by rw [e_]; exact ⟨zr HQ123⟩
   have n1_ : Aside0 (w124.heap[gb376]? = some (.cells #[.int .i64 a0_0, .int .i64 a0_1, .slice A0_2 l0_2.length c0_2, .int .i64 a0_3, .int .i64 a0_4] 68 (0, 0))) := by rw [e_]; exact ⟨by (with_reducible repeat (first | refine blk_drewN ?_ _ | refine blk_drew ?_ | refine blk_alloc ?_ _)); refine blk_far ?_ (by have h_ := Kd.R_ne HO384.out BK376.out (by decide); intro e_; exact h_ (by rw [e_]; rfl)) _; (with_reducible repeat (first | refine blk_drewN ?_ _ | refine blk_drew ?_ | refine blk_alloc ?_ _)); refine blk_far ?_ (by have h_ := Kd.R_ne HO384.out BK376.out (by decide); intro e_; exact h_ (by rw [e_]; rfl)) _; (with_reducible repeat (first | refine blk_drewN ?_ _ | refine blk_drew ?_ | refine blk_alloc ?_ _)); exact BK376.out⟩
   have n2_ : Aside0 (w124.heap[gb377]? = some (.cells #[.int .i64 0, .int .i64 0, .slice none 0 0, .int .i64 0, .int .i64 0] 68 (0, 0))) := by rw [e_]; exact ⟨by (with_reducible repeat (first | refine blk_drewN ?_ _ | refine blk_drew ?_ | refine blk_alloc ?_ _)); refine blk_far ?_ (by have h_ := Kd.R_ne HO384.out BK377.out (by decide); intro e_; exact h_ (by rw [e_]; rfl)) _; (with_reducible repeat (first | refine blk_drewN ?_ _ | refine blk_drew ?_ | refine blk_alloc ?_ _)); refine blk_far ?_ (by have h_ := Kd.R_ne HO384.out BK377.out (by decide); intro e_; exact h_ (by rw [e_]; rfl)) _; (with_reducible repeat (first | refine blk_drewN ?_ _ | refine blk_drew ?_ | refine blk_alloc ?_ _)); exact BK377.out⟩
   have n3_ : Aside0 (w124.heap[gb385]? = some (.cells #[.int .i64 a0_0, .int .i64 a0_1, .slice (some ⟨go10, 0, none⟩) y382.length co114, .int .i64 a0_3, .int .i64 a0_4] 68 (0, 0))) := by rw [e_]; exact ⟨by (with_reducible repeat (first | refine blk_drewN ?_ _ | refine blk_drew ?_ | refine blk_alloc ?_ _)); refine blk_far ?_ (by have h_ := Kd.R_ne HO384.out BK385.out (by decide); intro e_; exact h_ (by rw [e_]; rfl)) _; (with_reducible repeat (first | refine blk_drewN ?_ _ | refine blk_drew ?_ | refine blk_alloc ?_ _)); refine blk_far ?_ (by have h_ := Kd.R_ne HO384.out BK385.out (by decide); intro e_; exact h_ (by rw [e_]; rfl)) _; (with_reducible repeat (first | refine blk_drewN ?_ _ | refine blk_drew ?_ | refine blk_alloc ?_ _)); exact BK385.out⟩
   have n4_ : Aside0 (Below w.heap.size w w124) := by rw [e_]; exact ⟨by repeat (first | (with_reducible first | exact HB.out | apply below_alloc | apply pw_below_drewN | apply below_drew1 | refine below_set ?_ GB10.out | refine below_set ?_ GB10.out | refine below_set ?_ GE376.out | refine below_set ?_ GE377.out | refine below_set ?_ GE385.out) | exact HB.out)⟩
   (try clear HO384)
   (try clear BK376)
   (try clear BK377)
   (try clear BK385)
   (try clear HB)
   rw [← e_]; clear e_
   have HO384 := n0_
   have BK376 := n1_
   have BK377 := n2_
   have BK385 := n3_
   have HB := n4_
   clear n0_ n1_ n2_ n3_ n4_
   have hnb125 := NB385_376.out
   have hnc125 := NB376_385.out
   have hnb126 := NB385_377.out
   have hnc126 := NB377_385.out
   obtain ⟨hcz127_0, hcz127_1, hcz127_2, hcz127_3, hcz127_4⟩ := zd5 BK385
   obtain ⟨hfz127_0, hfz127_1, hfz127_2, hfz127_3, hfz127_4⟩ := zn5 BK385
   try go_wp2_with (first | ((with_reducible refine gate_callee (f := 74) rfl ?_); refine goesL_ (some 61) rfl rfl Try.func74 (by kernel_rfl) rfl #[.agg #[.int .i64 a0_0, .int .i64 a0_1, .slice (some ⟨go10, 0, none⟩) y387.length co114, .int .i64 ji77, .int .i64 a0_4]] rfl (by (try simp only [List.map_toArray, List.map_cons, List.map_nil]); first | done | (rw [show y387.length = y382.length from (Kd.R_reads' HO384.out).1.symm] <;> rfl) | (simp only [hji77]; rfl) | rfl | (simp only [List.length_drop, List.length_take]; rfl)) ?_; (with_reducible refine (impl_FlySpans.calls k a0_0 a0_1 _ _ y387 ji77 a0_4 t394 false _ ?side1 ?side2 A78.out).mono ?_); (case side1 => refine (Kd.R_reads' (e := 132) (base := w.heap.size) (ok := fun k_ => True) (n := y382.length) (c := co114) ?_).2.2; exact (zRf HO384 BK385 (fun _ h_ => h_.1))); (case side2 => rw [show y387.length = y382.length from (Kd.R_reads' HO384.out).1.symm]; exact (Kd.R_reads' HO384.out).2.1); rintro e w128 ⟨v395, rfl, ho0, hb⟩; refine ⟨_, rfl, ?_⟩; have HO396 := zA (Kd.R_lower ho0 (below_size (zs3 HB GE376 GE377 GE385))); replace HO384 := zA (Kd.R_below (zRf HO384 BK385 (fun _ h_ => h_.1)) hb); replace BK376 := zA (blk_below (g := gb376) (o := .cells #[.int .i64 a0_0, .int .i64 a0_1, .slice A0_2 l0_2.length c0_2, .int .i64 a0_3, .int .i64 a0_4] 68 (0, 0)) (zpf BK376 NB376_385) hb); replace BK377 := zA (blk_below (g := gb377) (o := .cells #[.int .i64 0, .int .i64 0, .slice none 0 0, .int .i64 0, .int .i64 0] 68 (0, 0)) (zpf BK377 NB377_385) hb); replace BK385 := zA (blk_below (g := gb385) (o := .cells #[.int .i64 a0_0, .int .i64 a0_1, .slice (some ⟨go10, 0, none⟩) y382.length co114, .int .i64 ji77, .int .i64 a0_4] 68 (0, 0)) (zpb BK385) hb); replace HB := zE (zs3 HB GE376 GE377 GE385) hb; (try clear hb); (try clear hb2); (try clear hk); (try clear hi); (try clear ho0); have hnb129 := NB377_376.out; have hnc129 := NB376_377.out; obtain ⟨hcz130_0, hcz130_1, hcz130_2, hcz130_3, hcz130_4⟩ := zd5 BK377; obtain ⟨hfz130_0, hfz130_1, hfz130_2, hfz130_3, hfz130_4⟩ := zn5 BK377))
   refine bodyPost_ret (results_ct rfl _ _ gb377 68 #[.int .i64 0, .int .i64 0, .slice none 0 0, .int .i64 0, .int .i64 0] (0, 0) _ rfl ?hz Try.underlying68 rfl (by kernel_rfl)) rfl ?_; (case hz => exact zpb BK377)
   exact ⟨_, by first | rfl | (simp [errW_none, errW_some] <;> rfl) | (simp only [← hji77]; first | rfl | (simp [errW_none, errW_some] <;> rfl)) | (simp [*, errW_none, errW_some] <;> rfl), by first | exact Kd.R_nil _ _ _ _ _ | exact Kd.N_nil _ _ _ _ _ | exact Kd.V_nil _ _ _ _ _ | exact Kd.Q_nil _ _ _ _ _ | exact Kd.S_nil _ _ _ _ _, zs3 HB GE376 GE377 GE385⟩
  subst c79
  have H1 : (some (a0_0, a0_1, y387, ji77, a0_4, true)) = some (r1, r2, r3, r4, r5, r6) := by rw [if_pos rfl] at H; exact H
  clear H
  have H := H1
  clear H1
  simp only [Option.some.injEq, Prod.mk.injEq] at H
  obtain ⟨rfl, rfl, rfl, rfl, rfl, rfl⟩ := H
  go_enter Try.func133, Try.ntmps133
  try go_wp2_with (first | ((with_reducible refine gate_dst (N := 5) rfl ?_); refine zbx 5 #[.int .i64 a0_0, .int .i64 a0_1, .slice A0_2 l0_2.length c0_2, .int .i64 a0_3, .int .i64 a0_4] 68 ?_; intro gb376 hg w80 hbox hb; have BK376 := zA hbox; have GW376 := zgs hg (zs0 HB); have GE376 := zgs hg (zs0 HB); replace HB := zE (zs0 HB) hb; clear hb hbox hg) | ((with_reducible refine gate_dst (N := 10) rfl ?_); refine zbx 10 #[.int .i64 0, .int .i64 0, .slice none 0 0, .int .i64 0, .int .i64 0] 68 ?_; intro gb377 hg w81 hbox hb; have BK377 := zA hbox; have GW377 := zgs hg (zs1 HB GE376); have GE377 := zgs hg (zs1 HB GE376); have NB376_377 := zne hg BK376; have NB377_376 := znf hg BK376; replace BK376 := zb BK376 hb; replace HB := zE (zs1 HB GE376) hb; clear hb hbox hg))
  replace BK376 := zA (blk_drew BK376.out)
  replace BK377 := zA (blk_drew BK377.out)
  replace HB := zA (below_drew1 HB.out)
  have q83 : (a1 : Int) ≤ ((l0_2.length : Int) : Int) := za
  obtain ⟨i083, hi083, _, hsz83, _⟩ := info_parts info132
  have hroom83 : l0_2.length ≤ c0_2 := HC0_2.out
  have hC83 : Kd.C k132 _ A0_2 l0_2.length l0_2 := HR0_2.out
  have q083 : (0 : Int) ≤ (a1 : Int) := za
  have hcut83 := cut_from (P := Try.prog) 66 132 .i64 Try.underlying66 hi083 7 hsz83 A0_2 l0_2.length c0_2 a1 q083 q83
  have hr83 := Kd.C_drop (m := (a1 : Int).toNat) (c := c0_2) hC83 (by omega) hroom83
  obtain ⟨A83, hA83⟩ : ∃ A1, A1 = (if c0_2 = (a1 : Int).toNat then A0_2 else (A0_2 : Option Addr).map (·.add ((a1 : Int).toNat * 7))) := ⟨_, rfl⟩
  obtain ⟨c83, hc83⟩ : ∃ c1, c1 = c0_2 - (a1 : Int).toNat := ⟨_, rfl⟩
  have hy83 : y378.length = l0_2.length - (a1 : Int).toNat := (by rw [Ny378.out, List.length_drop] <;> omega)
  rw [show (l0_2).drop (a1 : Int).toNat = y378 from Ny378.out.symm] at hr83
  replace hr83 : Kd.C k132 _ A83 y378.length y378 := (by rw [hA83]; exact hr83)
  rw [← hy83, ← hA83, ← hc83] at hcut83
  have HR381 := zA hr83
  have HC381 := zA (show y378.length ≤ c83 from by rw [hy83, hc83]; exact Nat.sub_le_sub_right hroom83 _)
  clear hr83 hC83 hroom83 hi083 hsz83 hc83
  have KY83 := zA hy83
  have KA83 := zA hA83
  clear hy83 hA83
  replace q83 := eq_true q83
  refine start_ (n := 14) (S := fun w' => w'.cell? ⟨gb376, 0, none⟩ = some (.int .i64 a0_0) ∧ w'.cell? ⟨gb376, 1, none⟩ = some (.int .i64 a0_1) ∧ w'.cell? ⟨gb376, 2, none⟩ = some (.slice A0_2 l0_2.length c0_2) ∧ w'.cell? ⟨gb376, 3, none⟩ = some (.int .i64 a0_3) ∧ w'.cell? ⟨gb376, 4, none⟩ = some (.int .i64 a0_4)) (ds := []) #[F,F,F,F,F,F,F,F,F,F,F,F,F,F] (by kernel_rfl) rfl rfl ⟨zc0 BK376, zc1 BK376, zc2 BK376, zc3 BK376, zc4 BK376⟩ (fun hHeld => ?_); refine with_tabW impl_FlyPath_rest.tab1 impl_FlyPath_rest.bits1 (fun HT_ HW_ => ?_)
  generalize w81.drew = w82 at BK376 BK377 HB HR381 hHeld ⊢
  refine zq HT_ 0 ?_
  refine zq HT_ 2 ?_
  refine zq HT_ 4 ?_
  refine zq HT_ 7 ?_
  refine zq HT_ 9 ?_
  refine zk5 HT_ HW_ hHeld 1 ?_
  refine zk5 HT_ HW_ hHeld 3 ?_
  refine zq HT_ 5 ?_
  refine zk5 HT_ HW_ hHeld 8 ?_
  refine zk5 HT_ HW_ hHeld 10 ?_
  refine join_ (σ := Value × Nat) 1 #[T,T,T,T,T,T,T,T,T,T,T,T,T,F] (fun s_ => [(21, s_.1), (12, .pointer (some ⟨s_.2, 0, none⟩)), (26, .agg #[.int .i64 a0_0, .int .i64 a0_1, s_.1, .int .i64 a0_3, .int .i64 a0_4])]) (fun s_ w' => (w'.cell? ⟨gb376, 0, none⟩ = some (.int .i64 a0_0) ∧ w'.cell? ⟨gb376, 1, none⟩ = some (.int .i64 a0_1) ∧ w'.cell? ⟨gb376, 2, none⟩ = some (.slice A0_2 l0_2.length c0_2) ∧ w'.cell? ⟨gb376, 3, none⟩ = some (.int .i64 a0_3) ∧ w'.cell? ⟨gb376, 4, none⟩ = some (.int .i64 a0_4)) ∧ (Kd.R k132 132 w' w.heap.size (fun _ => True) s_.1 y382) ∧ (w'.heap[gb376]? = some (.cells #[.int .i64 a0_0, .int .i64 a0_1, .slice A0_2 l0_2.length c0_2, .int .i64 a0_3, .int .i64 a0_4] 68 (0, 0))) ∧ (w'.heap[gb377]? = some (.cells #[.int .i64 0, .int .i64 0, .slice none 0 0, .int .i64 0, .int .i64 0] 68 (0, 0))) ∧ (w'.heap[s_.2]? = some (.cells #[.int .i64 0, .int .i64 0, .slice none 0 0, .int .i64 0, .int .i64 0] 68 (0, 0))) ∧ (w.heap.size ≤ s_.2) ∧ (w.heap.size ≤ s_.2) ∧ (gb376 ≠ s_.2) ∧ (s_.2 ≠ gb376) ∧ (gb377 ≠ s_.2) ∧ (s_.2 ≠ gb377) ∧ (Below w.heap.size w w')) ?_ ?_
  rotate_left
  ·intro hCont
   refine two_ (i := 6) (j := 12) (Ni := some 21) (Nj := some 12) #[T,T,T,T,T,T,T,T,T,T,T,F,F,F] #[T,T,T,T,T,T,F,T,T,T,T,F,T,F] rfl rfl rfl rfl (two_of HT_.out (by kernel_rfl)) (by decide) (by decide) (fun K hK => ?_) (fun K hK => ?_)
   ·skip
    refine Kd.R_append_rows_step k132 (w0 := w) w.heap.size rfl (.const (.slice none 0 0)) (.tmp 20) 66 132 (.agg #[(.int .i64 0), (.int .i64 0), (.int .i64 0), (.int .i64 0), (.int .i64 0), (.int .i64 0), (.bool false)]) 56 rfl Try.underlying66 info132 rfl (by decide) (by omega) (.slice none 0 0) ([] : List (S132)) y378 _ _ _ (fun _ => True) (fun _ => False) rfl rfl ?aO ?aR (fun _ _ h => h) (fun _ h => h.elim) ?aF ?aB ?aS ?aL ?_
    (case aR => repeat (first | exact (Kd.C_below HR381.out HB.out) | (with_reducible refine Kd.C_alloc ?_ _) | (with_reducible refine Kd.C_drewN ?_ _) | (with_reducible refine Kd.C_drew ?_)))
    (case aB => exact (zs2 HB GE376 GE377))
    (case aF => exact (fun _ _ => trivial))
    (case aO => exact ((Kd.R_nil _ _ _ _ (fun _ => True))))
    (case aS => exact (below_size (zs2 HB GE376 GE377)))
    (case aL => have := LMc8.out; omega)
    intro v383 w84 ho hb hg hat
    rw [← Ny382.out] at ho
    have HO384 := zA (ho)
    replace BK376 := zA (blk_grown (g := gb376) (o := .cells #[.int .i64 a0_0, .int .i64 a0_1, .slice A0_2 l0_2.length c0_2, .int .i64 a0_3, .int .i64 a0_4] 68 (0, 0)) (zh BK376) hg (by simp [Value.ownBlock]))
    replace BK377 := zA (blk_grown (g := gb377) (o := .cells #[.int .i64 0, .int .i64 0, .slice none 0 0, .int .i64 0, .int .i64 0] 68 (0, 0)) (zh BK377) hg (by simp [Value.ownBlock]))
    replace HB := zA (hb)
    clear ho hb hg hat
    obtain ⟨Ao85, co85, eo85⟩ := Kd.R_slice HO384.out
    (first | subst eo85 | (injection eo85 with f1_ f2_ f3_; have f4_ := f1_.symm; have f5_ := f3_.symm; clear f1_ f2_ f3_; subst f4_; subst f5_))
    refine hK.out _ _ ⟨zc0 BK376, zc1 BK376, zc2 BK376, zc3 BK376, zc4 BK376⟩ (fun hHeld => ?_)
    clear hK K
    refine zN ?_
    refine zq HT_ 11 ?_
    refine zo HT_ 12 (fun K hK => ?_)
    refine box_step (by rfl) (N := 12) (by rfl) (cs := #[.int .i64 0, .int .i64 0, .slice none 0 0, .int .i64 0, .int .i64 0]) (t := 68) zg ?_
    intro gb385 hg w86 hbox hb
    have BK385 := zA hbox
    have GW385 := zgs hg (zs2 HB GE376 GE377)
    have GE385 := zgs hg (zs2 HB GE376 GE377)
    have NB376_385 := zne hg BK376
    have NB385_376 := znf hg BK376
    have NB377_385 := zne hg BK377
    have NB385_377 := znf hg BK377
    replace HO384 := zA (Kd.R_below (zr HO384) hb)
    replace BK376 := zb BK376 hb
    replace BK377 := zb BK377 hb
    replace HB := zE (zs2 HB GE376 GE377) hb
    clear hb hbox hg
    refine hK.out _ _ ⟨zc0 BK376, zc1 BK376, zc2 BK376, zc3 BK376, zc4 BK376⟩ (fun hHeld => ?_)
    clear hK K
    refine zN ?_
    exact norm_ (by simp only [putAll, Act.put, List.setIfInBounds_toArray, List.set_cons_zero, List.set_cons_succ]) (hCont (.slice Ao85 y382.length co85, gb385) _ ⟨hHeld, (zr HO384), (zh BK376), (zh BK377), (zh BK385), GW385.out, GE385.out, NB376_385.out, NB385_376.out, NB377_385.out, NB385_377.out, (zs3 HB GE376 GE377 GE385)⟩)
   ·skip
    refine box_step (by rfl) (N := 12) (by rfl) (cs := #[.int .i64 0, .int .i64 0, .slice none 0 0, .int .i64 0, .int .i64 0]) (t := 68) zg ?_
    intro gb385 hg w84 hbox hb
    have BK385 := zA hbox
    have GW385 := zgs hg (zs2 HB GE376 GE377)
    have GE385 := zgs hg (zs2 HB GE376 GE377)
    have NB376_385 := zne hg BK376
    have NB385_376 := znf hg BK376
    have NB377_385 := zne hg BK377
    have NB385_377 := znf hg BK377
    replace BK376 := zb BK376 hb
    replace BK377 := zb BK377 hb
    replace HB := zE (zs2 HB GE376 GE377) hb
    clear hb hbox hg
    refine hK.out _ _ ⟨zc0 BK376, zc1 BK376, zc2 BK376, zc3 BK376, zc4 BK376⟩ (fun hHeld => ?_)
    clear hK K
    refine zN ?_
    refine zo HT_ 6 (fun K hK => ?_)
    refine Kd.R_append_rows_step k132 (w0 := w) w.heap.size rfl (.const (.slice none 0 0)) (.tmp 20) 66 132 (.agg #[(.int .i64 0), (.int .i64 0), (.int .i64 0), (.int .i64 0), (.int .i64 0), (.int .i64 0), (.bool false)]) 56 rfl Try.underlying66 info132 rfl (by decide) (by omega) (.slice none 0 0) ([] : List (S132)) y378 _ _ _ (fun _ => True) (fun _ => False) rfl rfl ?aO ?aR (fun _ _ h => h) (fun _ h => h.elim) ?aF ?aB ?aS ?aL ?_
    (case aR => repeat (first | exact (Kd.C_below HR381.out HB.out) | (with_reducible refine Kd.C_alloc ?_ _) | (with_reducible refine Kd.C_drewN ?_ _) | (with_reducible refine Kd.C_drew ?_)))
    (case aB => exact (zs3 HB GE376 GE377 GE385))
    (case aF => exact (fun _ _ => trivial))
    (case aO => exact ((Kd.R_nil _ _ _ _ (fun _ => True))))
    (case aS => exact (below_size (zs3 HB GE376 GE377 GE385)))
    (case aL => have := LMc8.out; omega)
    intro v383 w85 ho hb hg hat
    rw [← Ny382.out] at ho
    have HO384 := zA (ho)
    replace BK376 := zA (blk_grown (g := gb376) (o := .cells #[.int .i64 a0_0, .int .i64 a0_1, .slice A0_2 l0_2.length c0_2, .int .i64 a0_3, .int .i64 a0_4] 68 (0, 0)) (zh BK376) hg (by simp [Value.ownBlock]))
    replace BK377 := zA (blk_grown (g := gb377) (o := .cells #[.int .i64 0, .int .i64 0, .slice none 0 0, .int .i64 0, .int .i64 0] 68 (0, 0)) (zh BK377) hg (by simp [Value.ownBlock]))
    replace BK385 := zA (blk_grown (g := gb385) (o := .cells #[.int .i64 0, .int .i64 0, .slice none 0 0, .int .i64 0, .int .i64 0] 68 (0, 0)) (zh BK385) hg (by simp [Value.ownBlock]))
    replace HB := zA (hb)
    clear ho hb hg hat
    obtain ⟨Ao86, co86, eo86⟩ := Kd.R_slice HO384.out
    (first | subst eo86 | (injection eo86 with f1_ f2_ f3_; have f4_ := f1_.symm; have f5_ := f3_.symm; clear f1_ f2_ f3_; subst f4_; subst f5_))
    refine hK.out _ _ ⟨zc0 BK376, zc1 BK376, zc2 BK376, zc3 BK376, zc4 BK376⟩ (fun hHeld => ?_)
    clear hK K
    refine zN ?_
    refine zq HT_ 11 ?_
    exact norm_ (by simp only [putAll, Act.put, List.setIfInBounds_toArray, List.set_cons_zero, List.set_cons_succ]) (hCont (.slice Ao86 y382.length co86, gb385) _ ⟨hHeld, (zr HO384), (zh BK376), (zh BK377), (zh BK385), GW385.out, GE385.out, NB376_385.out, NB385_376.out, NB377_385.out, NB385_377.out, (zs3 HB GE376 GE377 GE385)⟩)
  rintro ⟨v383, gb385⟩ w87 ⟨hS_, h0_, h1_, h2_, h3_, h4_, h5_, h6_, h7_, h8_, h9_, h10_⟩
  have HO384 : Aside0 (Kd.R k132 132 w87 w.heap.size (fun _ => True) v383 y382) := ⟨h0_⟩
  have BK385 : Aside0 (w87.heap[gb385]? = some (.cells #[.int .i64 0, .int .i64 0, .slice none 0 0, .int .i64 0, .int .i64 0] 68 (0, 0))) := ⟨h3_⟩
  have GW385 : Aside0 (w.heap.size ≤ gb385) := ⟨h4_⟩
  have GE385 : Aside0 (w.heap.size ≤ gb385) := ⟨h5_⟩
  have NB376_385 : Aside0 (gb376 ≠ gb385) := ⟨h6_⟩
  have NB385_376 : Aside0 (gb385 ≠ gb376) := ⟨h7_⟩
  have NB377_385 : Aside0 (gb377 ≠ gb385) := ⟨h8_⟩
  have NB385_377 : Aside0 (gb385 ≠ gb377) := ⟨h9_⟩
  replace BK376 : Aside0 (w87.heap[gb376]? = some (.cells #[.int .i64 a0_0, .int .i64 a0_1, .slice A0_2 l0_2.length c0_2, .int .i64 a0_3, .int .i64 a0_4] 68 (0, 0))) := ⟨h1_⟩
  replace BK377 : Aside0 (w87.heap[gb377]? = some (.cells #[.int .i64 0, .int .i64 0, .slice none 0 0, .int .i64 0, .int .i64 0] 68 (0, 0))) := ⟨h2_⟩
  replace HB : Aside0 (Below w.heap.size w w87) := ⟨h10_⟩
  clear h0_ h1_ h2_ h3_ h4_ h5_ h6_ h7_ h8_ h9_ h10_
  have hHeld : w87.cell? ⟨gb376, 0, none⟩ = some (.int .i64 a0_0) ∧ w87.cell? ⟨gb376, 1, none⟩ = some (.int .i64 a0_1) ∧ w87.cell? ⟨gb376, 2, none⟩ = some (.slice A0_2 l0_2.length c0_2) ∧ w87.cell? ⟨gb376, 3, none⟩ = some (.int .i64 a0_3) ∧ w87.cell? ⟨gb376, 4, none⟩ = some (.int .i64 a0_4) := hS_
  obtain ⟨Ao88, co88, eo88⟩ := Kd.R_slice HO384.out
  (first | subst eo88 | (injection eo88 with f1_ f2_ f3_; have f4_ := f1_.symm; have f5_ := f3_.symm; clear f1_ f2_ f3_; subst f4_; subst f5_))
  refine norm_ (a' := ?_) ?_ ?_
  rotate_left
  ·simp only [putAll, Act.put, List.setIfInBounds_toArray, List.set_cons_zero, List.set_cons_succ]
   rfl
  refine zo HT_ 13 (fun K hK => ?_)
  have hs89 : w87.cell? ⟨gb385, 0, none⟩ = some (.int .i64 0) := zc0 BK385
  have hfs89 := zf BK385 0
  have hns89_0 := NB376_385.out
  have hns89_1 := NB377_385.out
  have hms89_0 := NB385_376.out
  have hms89_1 := NB385_377.out
  have hs90 : w87.cell? ⟨gb385, 1, none⟩ = some (.int .i64 0) := zc1 BK385
  have hfs90 := zf BK385 1
  have hns90_0 := NB376_385.out
  have hns90_1 := NB377_385.out
  have hms90_0 := NB385_376.out
  have hms90_1 := NB385_377.out
  have hs91 : w87.cell? ⟨gb385, 2, none⟩ = some (.slice none 0 0) := zc2 BK385
  have hfs91 := zf BK385 2
  have hns91_0 := NB376_385.out
  have hns91_1 := NB377_385.out
  have hms91_0 := NB385_376.out
  have hms91_1 := NB385_377.out
  have hs92 : w87.cell? ⟨gb385, 3, none⟩ = some (.int .i64 0) := zc3 BK385
  have hfs92 := zf BK385 3
  have hns92_0 := NB376_385.out
  have hns92_1 := NB377_385.out
  have hms92_0 := NB385_376.out
  have hms92_1 := NB385_377.out
  have hs93 : w87.cell? ⟨gb385, 4, none⟩ = some (.int .i64 0) := zc4 BK385
  have hfs93 := zf BK385 4
  have hns93_0 := NB376_385.out
  have hns93_1 := NB377_385.out
  have hms93_0 := NB385_376.out
  have hms93_1 := NB385_377.out
  refine skip_ (w1 := ?_) (by rfl) rfl ?_ ?_
  rotate_left
  ·go_simp
   rfl
  refine hK.out _ _ (zcf hHeld NB376_385) (fun hHeld => ?_)
  clear hK K
  refine done_ (done_of HT_.out (by kernel_rfl)) ?_
  try go_wp2
  obtain ⟨w94, e_⟩ : ∃ x, x = (((((w87.setCell ⟨gb385, 0, none⟩ (.int .i64 a0_0)).setCell ⟨gb385, 1, none⟩ (.int .i64 a0_1)).setCell ⟨gb385, 2, none⟩ (.slice Ao88 y382.length co88)).setCell ⟨gb385, 3, none⟩ (.int .i64 a0_3)).setCell ⟨gb385, 4, none⟩ (.int .i64 a0_4)) := ⟨_, rfl⟩
  have n0_ : Aside0 (Kd.R k132 132 w94 w.heap.size (fun _ => True) (.slice Ao88 y382.length co88) y382) := by rw [e_]; exact ⟨zRf HO384 BK385 (fun _ hk => trivial)⟩
  have n1_ : Aside0 (w94.heap[gb376]? = some (.cells #[.int .i64 a0_0, .int .i64 a0_1, .slice A0_2 l0_2.length c0_2, .int .i64 a0_3, .int .i64 a0_4] 68 (0, 0))) := by rw [e_]; exact ⟨zpf BK376 NB376_385⟩
  have n2_ : Aside0 (w94.heap[gb377]? = some (.cells #[.int .i64 0, .int .i64 0, .slice none 0 0, .int .i64 0, .int .i64 0] 68 (0, 0))) := by rw [e_]; exact ⟨zpf BK377 NB377_385⟩
  have n3_ : Aside0 (w94.heap[gb385]? = some (.cells #[.int .i64 a0_0, .int .i64 a0_1, .slice Ao88 y382.length co88, .int .i64 a0_3, .int .i64 a0_4] 68 (0, 0))) := by rw [e_]; exact ⟨zpb BK385⟩
  have n4_ : Aside0 (Below w.heap.size w w94) := by rw [e_]; exact ⟨zs3 HB GE376 GE377 GE385⟩
  (try clear HO384)
  (try clear BK376)
  (try clear BK377)
  (try clear BK385)
  (try clear HB)
  rw [← e_]; clear e_
  have HO384 := n0_
  have BK376 := n1_
  have BK377 := n2_
  have BK385 := n3_
  have HB := n4_
  clear n0_ n1_ n2_ n3_ n4_
  replace HO384 := zA (Kd.R_drew HO384.out)
  replace BK376 := zA (blk_drew BK376.out)
  replace BK377 := zA (blk_drew BK377.out)
  replace BK385 := zA (blk_drew BK385.out)
  replace HB := zA (below_drew1 HB.out)
  have p10 : 0 ≤ (0 : Int) := (by omega)
  have q10 : (0 : Int) < ((y382.length : Int) : Int) := za
  have qi10 : (0 < y382.length) = True := eq_true (by omega)
  obtain ⟨go10, co10, eo10, gb10, gl10, cl10, HG10⟩ := Kd.R_form HO384.out (by omega)
  (first | cases eo10 | (injection eo10 with ea_ en_ ec_; (first | subst ea_ | (injection ea_ with ea_; subst ea_)); subst ec_; clear en_))
  have GB10 := zA gb10
  have GG10 := zA HG10
  clear gb10 gl10 HG10
  obtain ⟨ce10, hcl10, hM10, hcc10, hfr10⟩ := Kd.R_elem HO384.out z132 (0 : Int) p10 q10
  obtain rfl := k132_openM hM10
  have hx10_0 : World.cell? _ ⟨go10, (0 : Int).toNat * 7, none⟩ = some (.int .i64 ((rd_T132 y382 0).f0)) := hcc10 0 _ rfl
  have hx10_1 : World.cell? _ ⟨go10, (0 : Int).toNat * 7 + 1, none⟩ = some (.int .i64 ((rd_T132 y382 0).f1)) := hcc10 1 _ rfl
  have hx10_2 : World.cell? _ ⟨go10, (0 : Int).toNat * 7 + 2, none⟩ = some (.int .i64 ((rd_T132 y382 0).f2)) := hcc10 2 _ rfl
  have hx10_3 : World.cell? _ ⟨go10, (0 : Int).toNat * 7 + 3, none⟩ = some (.int .i64 ((rd_T132 y382 0).f3)) := hcc10 3 _ rfl
  have hx10_4 : World.cell? _ ⟨go10, (0 : Int).toNat * 7 + 4, none⟩ = some (.int .i64 ((rd_T132 y382 0).f4)) := hcc10 4 _ rfl
  have hx10_5 : World.cell? _ ⟨go10, (0 : Int).toNat * 7 + 5, none⟩ = some (.int .i64 ((rd_T132 y382 0).f5)) := hcc10 5 _ rfl
  have hx10_6 : World.cell? _ ⟨go10, (0 : Int).toNat * 7 + 6, none⟩ = some (.bool ((rd_T132 y382 0).f6)) := hcc10 6 _ rfl
  have hf10_0 : World.frozen? _ ⟨go10, (0 : Int).toNat * 7, none⟩ = false := hfr10 0
  have hf10_1 : World.frozen? _ ⟨go10, (0 : Int).toNat * 7 + 1, none⟩ = false := hfr10 1
  have hf10_2 : World.frozen? _ ⟨go10, (0 : Int).toNat * 7 + 2, none⟩ = false := hfr10 2
  have hf10_3 : World.frozen? _ ⟨go10, (0 : Int).toNat * 7 + 3, none⟩ = false := hfr10 3
  have hf10_4 : World.frozen? _ ⟨go10, (0 : Int).toNat * 7 + 4, none⟩ = false := hfr10 4
  have hf10_5 : World.frozen? _ ⟨go10, (0 : Int).toNat * 7 + 5, none⟩ = false := hfr10 5
  have hf10_6 : World.frozen? _ ⟨go10, (0 : Int).toNat * 7 + 6, none⟩ = false := hfr10 6
  clear hcl10 hcc10 hfr10 hM10
  (try rw [zi0] at hx10_0)
  (try simp only [Nat.zero_mul, Nat.zero_add] at hx10_0)
  (try rw [zi0] at hf10_0)
  (try simp only [Nat.zero_mul, Nat.zero_add] at hf10_0)
  (try rw [zi0] at hx10_1)
  (try simp only [Nat.zero_mul, Nat.zero_add] at hx10_1)
  (try rw [zi0] at hf10_1)
  (try simp only [Nat.zero_mul, Nat.zero_add] at hf10_1)
  (try rw [zi0] at hx10_2)
  (try simp only [Nat.zero_mul, Nat.zero_add] at hx10_2)
  (try rw [zi0] at hf10_2)
  (try simp only [Nat.zero_mul, Nat.zero_add] at hf10_2)
  (try rw [zi0] at hx10_3)
  (try simp only [Nat.zero_mul, Nat.zero_add] at hx10_3)
  (try rw [zi0] at hf10_3)
  (try simp only [Nat.zero_mul, Nat.zero_add] at hf10_3)
  (try rw [zi0] at hx10_4)
  (try simp only [Nat.zero_mul, Nat.zero_add] at hx10_4)
  (try rw [zi0] at hf10_4)
  (try simp only [Nat.zero_mul, Nat.zero_add] at hf10_4)
  (try rw [zi0] at hx10_5)
  (try simp only [Nat.zero_mul, Nat.zero_add] at hx10_5)
  (try rw [zi0] at hf10_5)
  (try simp only [Nat.zero_mul, Nat.zero_add] at hf10_5)
  (try rw [zi0] at hx10_6)
  (try simp only [Nat.zero_mul, Nat.zero_add] at hx10_6)
  (try rw [zi0] at hf10_6)
  (try simp only [Nat.zero_mul, Nat.zero_add] at hf10_6)
  replace p10 := eq_true p10
  replace q10 := eq_true q10
  obtain ⟨ce96, hcl96, hM96, hcc96, hfr96⟩ := Kd.R_elem HO384.out z132 (0 : Int) (by omega) (by have h_ : (0 : Int) < ((y382.length : Int) : Int) := za; first | exact h_ | (have e_ := (Kd.R_reads' HO384.out).1; omega) | simpa using h_)
  obtain rfl := k132_openM hM96
  have HP96 := (Kd.R_seg HO384.out (0 : Int) (by omega) (by have h_ : (0 : Int) < ((y382.length : Int) : Int) := za; first | exact h_ | (have e_ := (Kd.R_reads' HO384.out).1; omega) | simpa using h_) (seg := [.int .i64 a2]) (j := 4) hcl96 hcc96 (show 5 ≤ 7 from by decide) (x' := (⟨(rd_T132 y382 0).f0, (rd_T132 y382 0).f1, (rd_T132 y382 0).f2, (rd_T132 y382 0).f3, a2, (rd_T132 y382 0).f5, (rd_T132 y382 0).f6⟩ : S132)) (k132_mkM _ _ _ (⟨(rd_T132 y382 0).f0, (rd_T132 y382 0).f1, (rd_T132 y382 0).f2, (rd_T132 y382 0).f3, a2, (rd_T132 y382 0).f5, (rd_T132 y382 0).f6⟩ : S132) ) (fun _ hk => hk)).1
  rw [← Ny386.out] at HP96
  have HQ96 := zA HP96
  clear hcl96 hcc96 hfr96 hM96 HP96
  have p11 : 0 ≤ (0 : Int) := (by omega)
  have q11 : (0 : Int) < ((y382.length : Int) : Int) := za
  replace p11 := eq_true p11
  replace q11 := eq_true q11
  obtain ⟨ce97, hcl97, hM97, hcc97, hfr97⟩ := Kd.R_elem HQ96.out z132 (0 : Int) (by omega) (by have h_ : (0 : Int) < ((y382.length : Int) : Int) := za; first | exact h_ | (have e_ := (Kd.R_reads' HO384.out).1; omega) | simpa using h_)
  obtain rfl := k132_openM hM97
  have HP97 := (Kd.R_seg HQ96.out (0 : Int) (by omega) (by have h_ : (0 : Int) < ((y382.length : Int) : Int) := za; first | exact h_ | (have e_ := (Kd.R_reads' HO384.out).1; omega) | simpa using h_) (seg := [.int .i64 a3]) (j := 5) hcl97 hcc97 (show 6 ≤ 7 from by decide) (x' := (⟨(rd_T132 y386 0).f0, (rd_T132 y386 0).f1, (rd_T132 y386 0).f2, (rd_T132 y386 0).f3, (rd_T132 y386 0).f4, a3, (rd_T132 y386 0).f6⟩ : S132)) (k132_mkM _ _ _ (⟨(rd_T132 y386 0).f0, (rd_T132 y386 0).f1, (rd_T132 y386 0).f2, (rd_T132 y386 0).f3, (rd_T132 y386 0).f4, a3, (rd_T132 y386 0).f6⟩ : S132) ) (fun _ hk => hk)).1
  rw [← Ny387.out] at HP97
  have HQ97 := zA HP97
  clear hcl97 hcc97 hfr97 hM97 HP97
  refine start_ (n := 12) (S := fun w' => w'.cell? ⟨gb385, 0, none⟩ = some (.int .i64 a0_0) ∧ w'.cell? ⟨gb385, 1, none⟩ = some (.int .i64 a0_1) ∧ w'.cell? ⟨gb385, 2, none⟩ = some (.slice (some ⟨go10, 0, none⟩) y382.length co88) ∧ w'.cell? ⟨gb385, 3, none⟩ = some (.int .i64 a0_3) ∧ w'.cell? ⟨gb385, 4, none⟩ = some (.int .i64 a0_4)) (ds := [11]) #[F,F,F,F,F,F,F,F,F,F,F,F] (by kernel_rfl) rfl rfl ⟨zc0 BK385, zc1 BK385, zc2 BK385, zc3 BK385, zc4 BK385⟩ (fun hHeld => ?_); refine with_tabW impl_FlyPath_rest.tab2 impl_FlyPath_rest.bits2 (fun HT_ HW_ => ?_)
  generalize w94.drew = w95 at HO384 BK376 BK377 BK385 HB GG10 HQ96 HQ97 hf10_0 hf10_1 hf10_2 hf10_3 hf10_4 hf10_5 hf10_6 hx10_0 hx10_1 hx10_2 hx10_3 hx10_4 hx10_5 hx10_6 hHeld ⊢
  refine zq HT_ 0 ?_
  refine zq HT_ 2 ?_
  refine zq HT_ 4 ?_
  refine zq HT_ 5 ?_
  refine zk5 HT_ HW_ hHeld 1 ?_
  refine zq HT_ 6 ?_
  refine zq HT_ 7 ?_
  refine zk5 HT_ HW_ hHeld 3 ?_
  refine zo HT_ 8 (fun K hK => ?_)
  refine skip_ (w1 := ?_) (by rfl) rfl ?_ ?_
  rotate_left
  ·go_simp
   rfl
  refine hK.out _ _ ⟨((cell_far (p := ⟨go10, _, none⟩) (by have h_ := Kd.R_ne (HO384.out) BK385.out (by decide); exact fun e_ => h_ (congrArg some e_)) _).trans (hHeld.1)), ((cell_far (p := ⟨go10, _, none⟩) (by have h_ := Kd.R_ne (HO384.out) BK385.out (by decide); exact fun e_ => h_ (congrArg some e_)) _).trans (hHeld.2.1)), ((cell_far (p := ⟨go10, _, none⟩) (by have h_ := Kd.R_ne (HO384.out) BK385.out (by decide); exact fun e_ => h_ (congrArg some e_)) _).trans (hHeld.2.2.1)), ((cell_far (p := ⟨go10, _, none⟩) (by have h_ := Kd.R_ne (HO384.out) BK385.out (by decide); exact fun e_ => h_ (congrArg some e_)) _).trans (hHeld.2.2.2.1)), ((cell_far (p := ⟨go10, _, none⟩) (by have h_ := Kd.R_ne (HO384.out) BK385.out (by decide); exact fun e_ => h_ (congrArg some e_)) _).trans (hHeld.2.2.2.2))⟩ (fun hHeld => ?_)
  clear hK K
  refine zq HT_ 9 ?_
  refine zq HT_ 10 ?_
  refine zO HT_ 11 (fun K hK => ?_)
  refine skip_ (w1 := ?_) (by rfl) rfl ?_ ?_
  rotate_left
  ·go_simp
   rfl
  refine hK.out _ _ ?_
  clear hK K
  refine done_ (done_of HT_.out (by kernel_rfl)) ?_
  obtain ⟨w98, e_⟩ : ∃ x, x = ((w95.setCell ⟨go10, 4, none⟩ (.int .i64 a2)).setCell ⟨go10, 5, none⟩ (.int .i64 a3)) := ⟨_, rfl⟩
  have n0_ : Aside0 (Kd.R k132 132 w98 w.heap.size (fun _ => True) (.slice (some ⟨go10, 0, none⟩) y382.length co88) y387) := by rw [e_]; exact ⟨zr HQ97⟩
  have n1_ : Aside0 (w98.heap[gb376]? = some (.cells #[.int .i64 a0_0, .int .i64 a0_1, .slice A0_2 l0_2.length c0_2, .int .i64 a0_3, .int .i64 a0_4] 68 (0, 0))) := by rw [e_]; exact ⟨by (with_reducible repeat (first | refine blk_drewN ?_ _ | refine blk_drew ?_ | refine blk_alloc ?_ _)); refine blk_far ?_ (by have h_ := Kd.R_ne HO384.out BK376.out (by decide); intro e_; exact h_ (by rw [e_]; rfl)) _; (with_reducible repeat (first | refine blk_drewN ?_ _ | refine blk_drew ?_ | refine blk_alloc ?_ _)); refine blk_far ?_ (by have h_ := Kd.R_ne HO384.out BK376.out (by decide); intro e_; exact h_ (by rw [e_]; rfl)) _; (with_reducible repeat (first | refine blk_drewN ?_ _ | refine blk_drew ?_ | refine blk_alloc ?_ _)); exact BK376.out⟩
  have n2_ : Aside0 (w98.heap[gb377]? = some (.cells #[.int .i64 0, .int .i64 0, .slice none 0 0, .int .i64 0, .int .i64 0] 68 (0, 0))) := by rw [e_]; exact ⟨by (with_reducible repeat (first | refine blk_drewN ?_ _ | refine blk_drew ?_ | refine blk_alloc ?_ _)); refine blk_far ?_ (by have h_ := Kd.R_ne HO384.out BK377.out (by decide); intro e_; exact h_ (by rw [e_]; rfl)) _; (with_reducible repeat (first | refine blk_drewN ?_ _ | refine blk_drew ?_ | refine blk_alloc ?_ _)); refine blk_far ?_ (by have h_ := Kd.R_ne HO384.out BK377.out (by decide); intro e_; exact h_ (by rw [e_]; rfl)) _; (with_reducible repeat (first | refine blk_drewN ?_ _ | refine blk_drew ?_ | refine blk_alloc ?_ _)); exact BK377.out⟩
  have n3_ : Aside0 (w98.heap[gb385]? = some (.cells #[.int .i64 a0_0, .int .i64 a0_1, .slice (some ⟨go10, 0, none⟩) y382.length co88, .int .i64 a0_3, .int .i64 a0_4] 68 (0, 0))) := by rw [e_]; exact ⟨by (with_reducible repeat (first | refine blk_drewN ?_ _ | refine blk_drew ?_ | refine blk_alloc ?_ _)); refine blk_far ?_ (by have h_ := Kd.R_ne HO384.out BK385.out (by decide); intro e_; exact h_ (by rw [e_]; rfl)) _; (with_reducible repeat (first | refine blk_drewN ?_ _ | refine blk_drew ?_ | refine blk_alloc ?_ _)); refine blk_far ?_ (by have h_ := Kd.R_ne HO384.out BK385.out (by decide); intro e_; exact h_ (by rw [e_]; rfl)) _; (with_reducible repeat (first | refine blk_drewN ?_ _ | refine blk_drew ?_ | refine blk_alloc ?_ _)); exact BK385.out⟩
  have n4_ : Aside0 (Below w.heap.size w w98) := by rw [e_]; exact ⟨by repeat (first | (with_reducible first | exact HB.out | apply below_alloc | apply pw_below_drewN | apply below_drew1 | refine below_set ?_ GB10.out | refine below_set ?_ GB10.out | refine below_set ?_ GE376.out | refine below_set ?_ GE377.out | refine below_set ?_ GE385.out) | exact HB.out)⟩
  (try clear HO384)
  (try clear BK376)
  (try clear BK377)
  (try clear BK385)
  (try clear HB)
  rw [← e_]; clear e_
  have HO384 := n0_
  have BK376 := n1_
  have BK377 := n2_
  have BK385 := n3_
  have HB := n4_
  clear n0_ n1_ n2_ n3_ n4_
  have hnb99 := NB385_376.out
  have hnc99 := NB376_385.out
  have hnb100 := NB385_377.out
  have hnc100 := NB377_385.out
  obtain ⟨hcz101_0, hcz101_1, hcz101_2, hcz101_3, hcz101_4⟩ := zd5 BK385
  obtain ⟨hfz101_0, hfz101_1, hfz101_2, hfz101_3, hfz101_4⟩ := zn5 BK385
  try go_wp2_with (first | ((with_reducible refine gate_callee (f := 74) rfl ?_); refine goesL_ (some 61) rfl rfl Try.func74 (by kernel_rfl) rfl #[.agg #[.int .i64 a0_0, .int .i64 a0_1, .slice (some ⟨go10, 0, none⟩) y387.length co88, .int .i64 ji77, .int .i64 a0_4]] rfl (by (try simp only [List.map_toArray, List.map_cons, List.map_nil]); first | done | (rw [show y387.length = y382.length from (Kd.R_reads' HO384.out).1.symm] <;> rfl) | (simp only [hji77]; rfl) | rfl | (simp only [List.length_drop, List.length_take]; rfl)) ?_; (with_reducible refine (impl_FlySpans.calls k a0_0 a0_1 _ _ y387 ji77 a0_4 t394 true _ ?side1 ?side2 A78.out).mono ?_); (case side1 => refine (Kd.R_reads' (e := 132) (base := w.heap.size) (ok := fun k_ => True) (n := y382.length) (c := co88) ?_).2.2; exact (zRf HO384 BK385 (fun _ h_ => h_.1))); (case side2 => rw [show y387.length = y382.length from (Kd.R_reads' HO384.out).1.symm]; exact (Kd.R_reads' HO384.out).2.1); rintro e w102 ⟨v395, rfl, ho0, hb⟩; refine ⟨_, rfl, ?_⟩; have HO396 := zA (Kd.R_lower ho0 (below_size (zs3 HB GE376 GE377 GE385))); replace HO384 := zA (Kd.R_below (zRf HO384 BK385 (fun _ h_ => h_.1)) hb); replace BK376 := zA (blk_below (g := gb376) (o := .cells #[.int .i64 a0_0, .int .i64 a0_1, .slice A0_2 l0_2.length c0_2, .int .i64 a0_3, .int .i64 a0_4] 68 (0, 0)) (zpf BK376 NB376_385) hb); replace BK377 := zA (blk_below (g := gb377) (o := .cells #[.int .i64 0, .int .i64 0, .slice none 0 0, .int .i64 0, .int .i64 0] 68 (0, 0)) (zpf BK377 NB377_385) hb); replace BK385 := zA (blk_below (g := gb385) (o := .cells #[.int .i64 a0_0, .int .i64 a0_1, .slice (some ⟨go10, 0, none⟩) y382.length co88, .int .i64 ji77, .int .i64 a0_4] 68 (0, 0)) (zpb BK385) hb); replace HB := zE (zs3 HB GE376 GE377 GE385) hb; (try clear hb); (try clear hb2); (try clear hk); (try clear hi); (try clear ho0); obtain ⟨hcz103_0, hcz103_1, hcz103_2, hcz103_3, hcz103_4⟩ := zd5 BK385; obtain ⟨hfz103_0, hfz103_1, hfz103_2, hfz103_3, hfz103_4⟩ := zn5 BK385; have hnb104 := NB377_376.out; have hnc104 := NB376_377.out; obtain ⟨hcz105_0, hcz105_1, hcz105_2, hcz105_3, hcz105_4⟩ := zd5 BK377; obtain ⟨hfz105_0, hfz105_1, hfz105_2, hfz105_3, hfz105_4⟩ := zn5 BK377))
  refine bodyPost_ret (results_ct rfl _ _ gb377 68 #[.int .i64 a0_0, .int .i64 a0_1, .slice (some ⟨go10, 0, none⟩) y382.length co88, .int .i64 ji77, .int .i64 a0_4] (0, 0) _ rfl ?hz Try.underlying68 rfl (by kernel_rfl)) rfl ?_; (case hz => exact zpb BK377)
  exact ⟨_, by first | rfl | (simp [errW_none, errW_some] <;> rfl) | (simp only [← hji77]; first | rfl | (simp [errW_none, errW_some] <;> rfl)) | (simp [*, errW_none, errW_some] <;> rfl), by (with_reducible repeat (first | apply Kd.R_alloc | apply Kd.R_drewN | apply Kd.R_drew)); exact Kd.R_mono (Kd.R_far (p := ⟨gb377, 4, none⟩) (Kd.R_far (p := ⟨gb377, 3, none⟩) (Kd.R_far (p := ⟨gb377, 2, none⟩) (Kd.R_far (p := ⟨gb377, 1, none⟩) (Kd.R_far (p := ⟨gb377, 0, none⟩) (Kd.R_types HO384.out BK377.out (by decide)) (fun _ hk => hk.2) (.int .i64 a0_0)) (fun _ hk => hk.2) (.int .i64 a0_1)) (fun _ hk => hk.2) (.slice (some ⟨go10, 0, none⟩) y382.length co88)) (fun _ hk => hk.2) (.int .i64 ji77)) (fun _ hk => hk.2) (.int .i64 a0_4)) (fun _ hk => trivial), zs3 HB GE376 GE377 GE385⟩
 rw [if_pos c12] at H
 have c12b0 : decide (1 < (y382.length : Int)) = true := decide_eq_true c12
 have c12b1 : decide (1 < y382.length) = true := decide_eq_true (by omega)
 clear c12
 by_cases c13 : 1 < (y382.length : Int)
 rotate_left
 ·rw [if_neg c13] at H
  exact absurd H (by simp)
 rw [if_pos c13] at H
 have c13b0 : decide (1 < (y382.length : Int)) = true := decide_eq_true c13
 have c13b1 : decide (1 < y382.length) = true := decide_eq_true (by omega)
 clear c13
 obtain ⟨ji14, hji14⟩ : ∃ j_ : Int, (mx ((rd_T132 y387 1).f4) (wrap64 (a4 + 1))) = j_ := ⟨_, rfl⟩
 first | rw [hji14] at H | simp only [hji14] at H
 have hji14_ : (if ((rd_T132 y387 1).f4) < (wrap64 (a4 + 1)) then (wrap64 (a4 + 1)) else ((rd_T132 y387 1).f4)) = ji14 := hji14
 obtain ⟨y389, hy389⟩ : ∃ y_ : List (S132), y_ = (y387.set (1 : Int).toNat (⟨(rd_T132 y387 1).f0, (rd_T132 y387 1).f1, (rd_T132 y387 1).f2, (rd_T132 y387 1).f3, ji14, (rd_T132 y387 1).f5, (rd_T132 y387 1).f6⟩ : S132)) := ⟨_, rfl⟩
 replace H : ((impl_FlySpans.f k a0_0 a0_1 y389 a0_3 a0_4).bind fun bt390 => (if bt390.2 = true then (some (a0_0, a0_1, y389, a0_3, a0_4, true)) else (some (0, 0, ([] : List (S132)), 0, 0, false)))) = some (r1, r2, r3, r4, r5, r6) := by first | (rw [hy389]; with_reducible exact H) | (have H2_ := (Option.bind_some _ _).symm.trans H; rw [hy389]; with_reducible exact H2_) | (have H2_ := (Option.bind_some _ _).symm.trans H; with_reducible exact H2_) | with_reducible exact H | (rw [hy389]; exact H) | exact H
 have Ny389 := zA hy389
 clear hy389
 replace H := Option.bind_eq_some_iff.mp H
 obtain ⟨⟨t390, t393⟩, A160, H⟩ := H
 replace H : (if t393 = true then (some (a0_0, a0_1, y389, a0_3, a0_4, true)) else (some (0, 0, ([] : List (S132)), 0, 0, false))) = some (r1, r2, r3, r4, r5, r6) := H
 have A16 := zA A160
 clear A160
 by_cases c17 : t393 = true
 rotate_left
 ·replace c17 := Bool.eq_false_iff.mpr c17
  subst c17
  have H1 : (some (0, 0, ([] : List (S132)), 0, 0, false)) = some (r1, r2, r3, r4, r5, r6) := by rw [if_neg (show ¬ (false = true) by decide)] at H; exact H
  clear H
  have H := H1
  clear H1
  simp only [Option.some.injEq, Prod.mk.injEq] at H
  obtain ⟨rfl, rfl, rfl, rfl, rfl, rfl⟩ := H
  go_enter Try.func133, Try.ntmps133
  try go_wp2_with (first | ((with_reducible refine gate_dst (N := 5) rfl ?_); refine zbx 5 #[.int .i64 a0_0, .int .i64 a0_1, .slice A0_2 l0_2.length c0_2, .int .i64 a0_3, .int .i64 a0_4] 68 ?_; intro gb376 hg w48 hbox hb; have BK376 := zA hbox; have GW376 := zgs hg (zs0 HB); have GE376 := zgs hg (zs0 HB); replace HB := zE (zs0 HB) hb; clear hb hbox hg) | ((with_reducible refine gate_dst (N := 10) rfl ?_); refine zbx 10 #[.int .i64 0, .int .i64 0, .slice none 0 0, .int .i64 0, .int .i64 0] 68 ?_; intro gb377 hg w49 hbox hb; have BK377 := zA hbox; have GW377 := zgs hg (zs1 HB GE376); have GE377 := zgs hg (zs1 HB GE376); have NB376_377 := zne hg BK376; have NB377_376 := znf hg BK376; replace BK376 := zb BK376 hb; replace HB := zE (zs1 HB GE376) hb; clear hb hbox hg))
  replace BK376 := zA (blk_drew BK376.out)
  replace BK377 := zA (blk_drew BK377.out)
  replace HB := zA (below_drew1 HB.out)
  have q51 : (a1 : Int) ≤ ((l0_2.length : Int) : Int) := za
  obtain ⟨i051, hi051, _, hsz51, _⟩ := info_parts info132
  have hroom51 : l0_2.length ≤ c0_2 := HC0_2.out
  have hC51 : Kd.C k132 _ A0_2 l0_2.length l0_2 := HR0_2.out
  have q051 : (0 : Int) ≤ (a1 : Int) := za
  have hcut51 := cut_from (P := Try.prog) 66 132 .i64 Try.underlying66 hi051 7 hsz51 A0_2 l0_2.length c0_2 a1 q051 q51
  have hr51 := Kd.C_drop (m := (a1 : Int).toNat) (c := c0_2) hC51 (by omega) hroom51
  obtain ⟨A51, hA51⟩ : ∃ A1, A1 = (if c0_2 = (a1 : Int).toNat then A0_2 else (A0_2 : Option Addr).map (·.add ((a1 : Int).toNat * 7))) := ⟨_, rfl⟩
  obtain ⟨c51, hc51⟩ : ∃ c1, c1 = c0_2 - (a1 : Int).toNat := ⟨_, rfl⟩
  have hy51 : y378.length = l0_2.length - (a1 : Int).toNat := (by rw [Ny378.out, List.length_drop] <;> omega)
  rw [show (l0_2).drop (a1 : Int).toNat = y378 from Ny378.out.symm] at hr51
  replace hr51 : Kd.C k132 _ A51 y378.length y378 := (by rw [hA51]; exact hr51)
  rw [← hy51, ← hA51, ← hc51] at hcut51
  have HR381 := zA hr51
  have HC381 := zA (show y378.length ≤ c51 from by rw [hy51, hc51]; exact Nat.sub_le_sub_right hroom51 _)
  clear hr51 hC51 hroom51 hi051 hsz51 hc51
  have KY51 := zA hy51
  have KA51 := zA hA51
  clear hy51 hA51
  replace q51 := eq_true q51
  refine start_ (n := 14) (S := fun w' => w'.cell? ⟨gb376, 0, none⟩ = some (.int .i64 a0_0) ∧ w'.cell? ⟨gb376, 1, none⟩ = some (.int .i64 a0_1) ∧ w'.cell? ⟨gb376, 2, none⟩ = some (.slice A0_2 l0_2.length c0_2) ∧ w'.cell? ⟨gb376, 3, none⟩ = some (.int .i64 a0_3) ∧ w'.cell? ⟨gb376, 4, none⟩ = some (.int .i64 a0_4)) (ds := []) #[F,F,F,F,F,F,F,F,F,F,F,F,F,F] (by kernel_rfl) rfl rfl ⟨zc0 BK376, zc1 BK376, zc2 BK376, zc3 BK376, zc4 BK376⟩ (fun hHeld => ?_); refine with_tabW impl_FlyPath_rest.tab1 impl_FlyPath_rest.bits1 (fun HT_ HW_ => ?_)
  generalize w49.drew = w50 at BK376 BK377 HB HR381 hHeld ⊢
  refine zq HT_ 0 ?_
  refine zq HT_ 2 ?_
  refine zq HT_ 4 ?_
  refine zq HT_ 7 ?_
  refine zq HT_ 9 ?_
  refine zk5 HT_ HW_ hHeld 1 ?_
  refine zk5 HT_ HW_ hHeld 3 ?_
  refine zq HT_ 5 ?_
  refine zk5 HT_ HW_ hHeld 8 ?_
  refine zk5 HT_ HW_ hHeld 10 ?_
  refine join_ (σ := Value × Nat) 1 #[T,T,T,T,T,T,T,T,T,T,T,T,T,F] (fun s_ => [(21, s_.1), (12, .pointer (some ⟨s_.2, 0, none⟩)), (26, .agg #[.int .i64 a0_0, .int .i64 a0_1, s_.1, .int .i64 a0_3, .int .i64 a0_4])]) (fun s_ w' => (w'.cell? ⟨gb376, 0, none⟩ = some (.int .i64 a0_0) ∧ w'.cell? ⟨gb376, 1, none⟩ = some (.int .i64 a0_1) ∧ w'.cell? ⟨gb376, 2, none⟩ = some (.slice A0_2 l0_2.length c0_2) ∧ w'.cell? ⟨gb376, 3, none⟩ = some (.int .i64 a0_3) ∧ w'.cell? ⟨gb376, 4, none⟩ = some (.int .i64 a0_4)) ∧ (Kd.R k132 132 w' w.heap.size (fun _ => True) s_.1 y382) ∧ (w'.heap[gb376]? = some (.cells #[.int .i64 a0_0, .int .i64 a0_1, .slice A0_2 l0_2.length c0_2, .int .i64 a0_3, .int .i64 a0_4] 68 (0, 0))) ∧ (w'.heap[gb377]? = some (.cells #[.int .i64 0, .int .i64 0, .slice none 0 0, .int .i64 0, .int .i64 0] 68 (0, 0))) ∧ (w'.heap[s_.2]? = some (.cells #[.int .i64 0, .int .i64 0, .slice none 0 0, .int .i64 0, .int .i64 0] 68 (0, 0))) ∧ (w.heap.size ≤ s_.2) ∧ (w.heap.size ≤ s_.2) ∧ (gb376 ≠ s_.2) ∧ (s_.2 ≠ gb376) ∧ (gb377 ≠ s_.2) ∧ (s_.2 ≠ gb377) ∧ (Below w.heap.size w w')) ?_ ?_
  rotate_left
  ·intro hCont
   refine two_ (i := 6) (j := 12) (Ni := some 21) (Nj := some 12) #[T,T,T,T,T,T,T,T,T,T,T,F,F,F] #[T,T,T,T,T,T,F,T,T,T,T,F,T,F] rfl rfl rfl rfl (two_of HT_.out (by kernel_rfl)) (by decide) (by decide) (fun K hK => ?_) (fun K hK => ?_)
   ·skip
    refine Kd.R_append_rows_step k132 (w0 := w) w.heap.size rfl (.const (.slice none 0 0)) (.tmp 20) 66 132 (.agg #[(.int .i64 0), (.int .i64 0), (.int .i64 0), (.int .i64 0), (.int .i64 0), (.int .i64 0), (.bool false)]) 56 rfl Try.underlying66 info132 rfl (by decide) (by omega) (.slice none 0 0) ([] : List (S132)) y378 _ _ _ (fun _ => True) (fun _ => False) rfl rfl ?aO ?aR (fun _ _ h => h) (fun _ h => h.elim) ?aF ?aB ?aS ?aL ?_
    (case aR => repeat (first | exact (Kd.C_below HR381.out HB.out) | (with_reducible refine Kd.C_alloc ?_ _) | (with_reducible refine Kd.C_drewN ?_ _) | (with_reducible refine Kd.C_drew ?_)))
    (case aB => exact (zs2 HB GE376 GE377))
    (case aF => exact (fun _ _ => trivial))
    (case aO => exact ((Kd.R_nil _ _ _ _ (fun _ => True))))
    (case aS => exact (below_size (zs2 HB GE376 GE377)))
    (case aL => have := LMc8.out; omega)
    intro v383 w52 ho hb hg hat
    rw [← Ny382.out] at ho
    have HO384 := zA (ho)
    replace BK376 := zA (blk_grown (g := gb376) (o := .cells #[.int .i64 a0_0, .int .i64 a0_1, .slice A0_2 l0_2.length c0_2, .int .i64 a0_3, .int .i64 a0_4] 68 (0, 0)) (zh BK376) hg (by simp [Value.ownBlock]))
    replace BK377 := zA (blk_grown (g := gb377) (o := .cells #[.int .i64 0, .int .i64 0, .slice none 0 0, .int .i64 0, .int .i64 0] 68 (0, 0)) (zh BK377) hg (by simp [Value.ownBlock]))
    replace HB := zA (hb)
    clear ho hb hg hat
    obtain ⟨Ao53, co53, eo53⟩ := Kd.R_slice HO384.out
    (first | subst eo53 | (injection eo53 with f1_ f2_ f3_; have f4_ := f1_.symm; have f5_ := f3_.symm; clear f1_ f2_ f3_; subst f4_; subst f5_))
    refine hK.out _ _ ⟨zc0 BK376, zc1 BK376, zc2 BK376, zc3 BK376, zc4 BK376⟩ (fun hHeld => ?_)
    clear hK K
    refine zN ?_
    refine zq HT_ 11 ?_
    refine zo HT_ 12 (fun K hK => ?_)
    refine box_step (by rfl) (N := 12) (by rfl) (cs := #[.int .i64 0, .int .i64 0, .slice none 0 0, .int .i64 0, .int .i64 0]) (t := 68) zg ?_
    intro gb385 hg w54 hbox hb
    have BK385 := zA hbox
    have GW385 := zgs hg (zs2 HB GE376 GE377)
    have GE385 := zgs hg (zs2 HB GE376 GE377)
    have NB376_385 := zne hg BK376
    have NB385_376 := znf hg BK376
    have NB377_385 := zne hg BK377
    have NB385_377 := znf hg BK377
    replace HO384 := zA (Kd.R_below (zr HO384) hb)
    replace BK376 := zb BK376 hb
    replace BK377 := zb BK377 hb
    replace HB := zE (zs2 HB GE376 GE377) hb
    clear hb hbox hg
    refine hK.out _ _ ⟨zc0 BK376, zc1 BK376, zc2 BK376, zc3 BK376, zc4 BK376⟩ (fun hHeld => ?_)
    clear hK K
    refine zN ?_
    exact norm_ (by simp only [putAll, Act.put, List.setIfInBounds_toArray, List.set_cons_zero, List.set_cons_succ]) (hCont (.slice Ao53 y382.length co53, gb385) _ ⟨hHeld, (zr HO384), (zh BK376), (zh BK377), (zh BK385), GW385.out, GE385.out, NB376_385.out, NB385_376.out, NB377_385.out, NB385_377.out, (zs3 HB GE376 GE377 GE385)⟩)
   ·skip
    refine box_step (by rfl) (N := 12) (by rfl) (cs := #[.int .i64 0, .int .i64 0, .slice none 0 0, .int .i64 0, .int .i64 0]) (t := 68) zg ?_
    intro gb385 hg w52 hbox hb
    have BK385 := zA hbox
    have GW385 := zgs hg (zs2 HB GE376 GE377)
    have GE385 := zgs hg (zs2 HB GE376 GE377)
    have NB376_385 := zne hg BK376
    have NB385_376 := znf hg BK376
    have NB377_385 := zne hg BK377
    have NB385_377 := znf hg BK377
    replace BK376 := zb BK376 hb
    replace BK377 := zb BK377 hb
    replace HB := zE (zs2 HB GE376 GE377) hb
    clear hb hbox hg
    refine hK.out _ _ ⟨zc0 BK376, zc1 BK376, zc2 BK376, zc3 BK376, zc4 BK376⟩ (fun hHeld => ?_)
    clear hK K
    refine zN ?_
    refine zo HT_ 6 (fun K hK => ?_)
    refine Kd.R_append_rows_step k132 (w0 := w) w.heap.size rfl (.const (.slice none 0 0)) (.tmp 20) 66 132 (.agg #[(.int .i64 0), (.int .i64 0), (.int .i64 0), (.int .i64 0), (.int .i64 0), (.int .i64 0), (.bool false)]) 56 rfl Try.underlying66 info132 rfl (by decide) (by omega) (.slice none 0 0) ([] : List (S132)) y378 _ _ _ (fun _ => True) (fun _ => False) rfl rfl ?aO ?aR (fun _ _ h => h) (fun _ h => h.elim) ?aF ?aB ?aS ?aL ?_
    (case aR => repeat (first | exact (Kd.C_below HR381.out HB.out) | (with_reducible refine Kd.C_alloc ?_ _) | (with_reducible refine Kd.C_drewN ?_ _) | (with_reducible refine Kd.C_drew ?_)))
    (case aB => exact (zs3 HB GE376 GE377 GE385))
    (case aF => exact (fun _ _ => trivial))
    (case aO => exact ((Kd.R_nil _ _ _ _ (fun _ => True))))
    (case aS => exact (below_size (zs3 HB GE376 GE377 GE385)))
    (case aL => have := LMc8.out; omega)
    intro v383 w53 ho hb hg hat
    rw [← Ny382.out] at ho
    have HO384 := zA (ho)
    replace BK376 := zA (blk_grown (g := gb376) (o := .cells #[.int .i64 a0_0, .int .i64 a0_1, .slice A0_2 l0_2.length c0_2, .int .i64 a0_3, .int .i64 a0_4] 68 (0, 0)) (zh BK376) hg (by simp [Value.ownBlock]))
    replace BK377 := zA (blk_grown (g := gb377) (o := .cells #[.int .i64 0, .int .i64 0, .slice none 0 0, .int .i64 0, .int .i64 0] 68 (0, 0)) (zh BK377) hg (by simp [Value.ownBlock]))
    replace BK385 := zA (blk_grown (g := gb385) (o := .cells #[.int .i64 0, .int .i64 0, .slice none 0 0, .int .i64 0, .int .i64 0] 68 (0, 0)) (zh BK385) hg (by simp [Value.ownBlock]))
    replace HB := zA (hb)
    clear ho hb hg hat
    obtain ⟨Ao54, co54, eo54⟩ := Kd.R_slice HO384.out
    (first | subst eo54 | (injection eo54 with f1_ f2_ f3_; have f4_ := f1_.symm; have f5_ := f3_.symm; clear f1_ f2_ f3_; subst f4_; subst f5_))
    refine hK.out _ _ ⟨zc0 BK376, zc1 BK376, zc2 BK376, zc3 BK376, zc4 BK376⟩ (fun hHeld => ?_)
    clear hK K
    refine zN ?_
    refine zq HT_ 11 ?_
    exact norm_ (by simp only [putAll, Act.put, List.setIfInBounds_toArray, List.set_cons_zero, List.set_cons_succ]) (hCont (.slice Ao54 y382.length co54, gb385) _ ⟨hHeld, (zr HO384), (zh BK376), (zh BK377), (zh BK385), GW385.out, GE385.out, NB376_385.out, NB385_376.out, NB377_385.out, NB385_377.out, (zs3 HB GE376 GE377 GE385)⟩)
  rintro ⟨v383, gb385⟩ w55 ⟨hS_, h0_, h1_, h2_, h3_, h4_, h5_, h6_, h7_, h8_, h9_, h10_⟩
  have HO384 : Aside0 (Kd.R k132 132 w55 w.heap.size (fun _ => True) v383 y382) := ⟨h0_⟩
  have BK385 : Aside0 (w55.heap[gb385]? = some (.cells #[.int .i64 0, .int .i64 0, .slice none 0 0, .int .i64 0, .int .i64 0] 68 (0, 0))) := ⟨h3_⟩
  have GW385 : Aside0 (w.heap.size ≤ gb385) := ⟨h4_⟩
  have GE385 : Aside0 (w.heap.size ≤ gb385) := ⟨h5_⟩
  have NB376_385 : Aside0 (gb376 ≠ gb385) := ⟨h6_⟩
  have NB385_376 : Aside0 (gb385 ≠ gb376) := ⟨h7_⟩
  have NB377_385 : Aside0 (gb377 ≠ gb385) := ⟨h8_⟩
  have NB385_377 : Aside0 (gb385 ≠ gb377) := ⟨h9_⟩
  replace BK376 : Aside0 (w55.heap[gb376]? = some (.cells #[.int .i64 a0_0, .int .i64 a0_1, .slice A0_2 l0_2.length c0_2, .int .i64 a0_3, .int .i64 a0_4] 68 (0, 0))) := ⟨h1_⟩
  replace BK377 : Aside0 (w55.heap[gb377]? = some (.cells #[.int .i64 0, .int .i64 0, .slice none 0 0, .int .i64 0, .int .i64 0] 68 (0, 0))) := ⟨h2_⟩
  replace HB : Aside0 (Below w.heap.size w w55) := ⟨h10_⟩
  clear h0_ h1_ h2_ h3_ h4_ h5_ h6_ h7_ h8_ h9_ h10_
  have hHeld : w55.cell? ⟨gb376, 0, none⟩ = some (.int .i64 a0_0) ∧ w55.cell? ⟨gb376, 1, none⟩ = some (.int .i64 a0_1) ∧ w55.cell? ⟨gb376, 2, none⟩ = some (.slice A0_2 l0_2.length c0_2) ∧ w55.cell? ⟨gb376, 3, none⟩ = some (.int .i64 a0_3) ∧ w55.cell? ⟨gb376, 4, none⟩ = some (.int .i64 a0_4) := hS_
  obtain ⟨Ao56, co56, eo56⟩ := Kd.R_slice HO384.out
  (first | subst eo56 | (injection eo56 with f1_ f2_ f3_; have f4_ := f1_.symm; have f5_ := f3_.symm; clear f1_ f2_ f3_; subst f4_; subst f5_))
  refine norm_ (a' := ?_) ?_ ?_
  rotate_left
  ·simp only [putAll, Act.put, List.setIfInBounds_toArray, List.set_cons_zero, List.set_cons_succ]
   rfl
  refine zo HT_ 13 (fun K hK => ?_)
  have hs57 : w55.cell? ⟨gb385, 0, none⟩ = some (.int .i64 0) := zc0 BK385
  have hfs57 := zf BK385 0
  have hns57_0 := NB376_385.out
  have hns57_1 := NB377_385.out
  have hms57_0 := NB385_376.out
  have hms57_1 := NB385_377.out
  have hs58 : w55.cell? ⟨gb385, 1, none⟩ = some (.int .i64 0) := zc1 BK385
  have hfs58 := zf BK385 1
  have hns58_0 := NB376_385.out
  have hns58_1 := NB377_385.out
  have hms58_0 := NB385_376.out
  have hms58_1 := NB385_377.out
  have hs59 : w55.cell? ⟨gb385, 2, none⟩ = some (.slice none 0 0) := zc2 BK385
  have hfs59 := zf BK385 2
  have hns59_0 := NB376_385.out
  have hns59_1 := NB377_385.out
  have hms59_0 := NB385_376.out
  have hms59_1 := NB385_377.out
  have hs60 : w55.cell? ⟨gb385, 3, none⟩ = some (.int .i64 0) := zc3 BK385
  have hfs60 := zf BK385 3
  have hns60_0 := NB376_385.out
  have hns60_1 := NB377_385.out
  have hms60_0 := NB385_376.out
  have hms60_1 := NB385_377.out
  have hs61 : w55.cell? ⟨gb385, 4, none⟩ = some (.int .i64 0) := zc4 BK385
  have hfs61 := zf BK385 4
  have hns61_0 := NB376_385.out
  have hns61_1 := NB377_385.out
  have hms61_0 := NB385_376.out
  have hms61_1 := NB385_377.out
  refine skip_ (w1 := ?_) (by rfl) rfl ?_ ?_
  rotate_left
  ·go_simp
   rfl
  refine hK.out _ _ (zcf hHeld NB376_385) (fun hHeld => ?_)
  clear hK K
  refine done_ (done_of HT_.out (by kernel_rfl)) ?_
  try go_wp2
  obtain ⟨w62, e_⟩ : ∃ x, x = (((((w55.setCell ⟨gb385, 0, none⟩ (.int .i64 a0_0)).setCell ⟨gb385, 1, none⟩ (.int .i64 a0_1)).setCell ⟨gb385, 2, none⟩ (.slice Ao56 y382.length co56)).setCell ⟨gb385, 3, none⟩ (.int .i64 a0_3)).setCell ⟨gb385, 4, none⟩ (.int .i64 a0_4)) := ⟨_, rfl⟩
  have n0_ : Aside0 (Kd.R k132 132 w62 w.heap.size (fun _ => True) (.slice Ao56 y382.length co56) y382) := by rw [e_]; exact ⟨zRf HO384 BK385 (fun _ hk => trivial)⟩
  have n1_ : Aside0 (w62.heap[gb376]? = some (.cells #[.int .i64 a0_0, .int .i64 a0_1, .slice A0_2 l0_2.length c0_2, .int .i64 a0_3, .int .i64 a0_4] 68 (0, 0))) := by rw [e_]; exact ⟨zpf BK376 NB376_385⟩
  have n2_ : Aside0 (w62.heap[gb377]? = some (.cells #[.int .i64 0, .int .i64 0, .slice none 0 0, .int .i64 0, .int .i64 0] 68 (0, 0))) := by rw [e_]; exact ⟨zpf BK377 NB377_385⟩
  have n3_ : Aside0 (w62.heap[gb385]? = some (.cells #[.int .i64 a0_0, .int .i64 a0_1, .slice Ao56 y382.length co56, .int .i64 a0_3, .int .i64 a0_4] 68 (0, 0))) := by rw [e_]; exact ⟨zpb BK385⟩
  have n4_ : Aside0 (Below w.heap.size w w62) := by rw [e_]; exact ⟨zs3 HB GE376 GE377 GE385⟩
  (try clear HO384)
  (try clear BK376)
  (try clear BK377)
  (try clear BK385)
  (try clear HB)
  rw [← e_]; clear e_
  have HO384 := n0_
  have BK376 := n1_
  have BK377 := n2_
  have BK385 := n3_
  have HB := n4_
  clear n0_ n1_ n2_ n3_ n4_
  replace HO384 := zA (Kd.R_drew HO384.out)
  replace BK376 := zA (blk_drew BK376.out)
  replace BK377 := zA (blk_drew BK377.out)
  replace BK385 := zA (blk_drew BK385.out)
  replace HB := zA (below_drew1 HB.out)
  have p10 : 0 ≤ (0 : Int) := (by omega)
  have q10 : (0 : Int) < ((y382.length : Int) : Int) := za
  have qi10 : (0 < y382.length) = True := eq_true (by omega)
  obtain ⟨go10, co10, eo10, gb10, gl10, cl10, HG10⟩ := Kd.R_form HO384.out (by omega)
  (first | cases eo10 | (injection eo10 with ea_ en_ ec_; (first | subst ea_ | (injection ea_ with ea_; subst ea_)); subst ec_; clear en_))
  have GB10 := zA gb10
  have GG10 := zA HG10
  clear gb10 gl10 HG10
  obtain ⟨ce10, hcl10, hM10, hcc10, hfr10⟩ := Kd.R_elem HO384.out z132 (0 : Int) p10 q10
  obtain rfl := k132_openM hM10
  have hx10_0 : World.cell? _ ⟨go10, (0 : Int).toNat * 7, none⟩ = some (.int .i64 ((rd_T132 y382 0).f0)) := hcc10 0 _ rfl
  have hx10_1 : World.cell? _ ⟨go10, (0 : Int).toNat * 7 + 1, none⟩ = some (.int .i64 ((rd_T132 y382 0).f1)) := hcc10 1 _ rfl
  have hx10_2 : World.cell? _ ⟨go10, (0 : Int).toNat * 7 + 2, none⟩ = some (.int .i64 ((rd_T132 y382 0).f2)) := hcc10 2 _ rfl
  have hx10_3 : World.cell? _ ⟨go10, (0 : Int).toNat * 7 + 3, none⟩ = some (.int .i64 ((rd_T132 y382 0).f3)) := hcc10 3 _ rfl
  have hx10_4 : World.cell? _ ⟨go10, (0 : Int).toNat * 7 + 4, none⟩ = some (.int .i64 ((rd_T132 y382 0).f4)) := hcc10 4 _ rfl
  have hx10_5 : World.cell? _ ⟨go10, (0 : Int).toNat * 7 + 5, none⟩ = some (.int .i64 ((rd_T132 y382 0).f5)) := hcc10 5 _ rfl
  have hx10_6 : World.cell? _ ⟨go10, (0 : Int).toNat * 7 + 6, none⟩ = some (.bool ((rd_T132 y382 0).f6)) := hcc10 6 _ rfl
  have hf10_0 : World.frozen? _ ⟨go10, (0 : Int).toNat * 7, none⟩ = false := hfr10 0
  have hf10_1 : World.frozen? _ ⟨go10, (0 : Int).toNat * 7 + 1, none⟩ = false := hfr10 1
  have hf10_2 : World.frozen? _ ⟨go10, (0 : Int).toNat * 7 + 2, none⟩ = false := hfr10 2
  have hf10_3 : World.frozen? _ ⟨go10, (0 : Int).toNat * 7 + 3, none⟩ = false := hfr10 3
  have hf10_4 : World.frozen? _ ⟨go10, (0 : Int).toNat * 7 + 4, none⟩ = false := hfr10 4
  have hf10_5 : World.frozen? _ ⟨go10, (0 : Int).toNat * 7 + 5, none⟩ = false := hfr10 5
  have hf10_6 : World.frozen? _ ⟨go10, (0 : Int).toNat * 7 + 6, none⟩ = false := hfr10 6
  clear hcl10 hcc10 hfr10 hM10
  (try rw [zi0] at hx10_0)
  (try simp only [Nat.zero_mul, Nat.zero_add] at hx10_0)
  (try rw [zi0] at hf10_0)
  (try simp only [Nat.zero_mul, Nat.zero_add] at hf10_0)
  (try rw [zi0] at hx10_1)
  (try simp only [Nat.zero_mul, Nat.zero_add] at hx10_1)
  (try rw [zi0] at hf10_1)
  (try simp only [Nat.zero_mul, Nat.zero_add] at hf10_1)
  (try rw [zi0] at hx10_2)
  (try simp only [Nat.zero_mul, Nat.zero_add] at hx10_2)
  (try rw [zi0] at hf10_2)
  (try simp only [Nat.zero_mul, Nat.zero_add] at hf10_2)
  (try rw [zi0] at hx10_3)
  (try simp only [Nat.zero_mul, Nat.zero_add] at hx10_3)
  (try rw [zi0] at hf10_3)
  (try simp only [Nat.zero_mul, Nat.zero_add] at hf10_3)
  (try rw [zi0] at hx10_4)
  (try simp only [Nat.zero_mul, Nat.zero_add] at hx10_4)
  (try rw [zi0] at hf10_4)
  (try simp only [Nat.zero_mul, Nat.zero_add] at hf10_4)
  (try rw [zi0] at hx10_5)
  (try simp only [Nat.zero_mul, Nat.zero_add] at hx10_5)
  (try rw [zi0] at hf10_5)
  (try simp only [Nat.zero_mul, Nat.zero_add] at hf10_5)
  (try rw [zi0] at hx10_6)
  (try simp only [Nat.zero_mul, Nat.zero_add] at hx10_6)
  (try rw [zi0] at hf10_6)
  (try simp only [Nat.zero_mul, Nat.zero_add] at hf10_6)
  replace p10 := eq_true p10
  replace q10 := eq_true q10
  obtain ⟨ce64, hcl64, hM64, hcc64, hfr64⟩ := Kd.R_elem HO384.out z132 (0 : Int) (by omega) (by have h_ : (0 : Int) < ((y382.length : Int) : Int) := za; first | exact h_ | (have e_ := (Kd.R_reads' HO384.out).1; omega) | simpa using h_)
  obtain rfl := k132_openM hM64
  have HP64 := (Kd.R_seg HO384.out (0 : Int) (by omega) (by have h_ : (0 : Int) < ((y382.length : Int) : Int) := za; first | exact h_ | (have e_ := (Kd.R_reads' HO384.out).1; omega) | simpa using h_) (seg := [.int .i64 a2]) (j := 4) hcl64 hcc64 (show 5 ≤ 7 from by decide) (x' := (⟨(rd_T132 y382 0).f0, (rd_T132 y382 0).f1, (rd_T132 y382 0).f2, (rd_T132 y382 0).f3, a2, (rd_T132 y382 0).f5, (rd_T132 y382 0).f6⟩ : S132)) (k132_mkM _ _ _ (⟨(rd_T132 y382 0).f0, (rd_T132 y382 0).f1, (rd_T132 y382 0).f2, (rd_T132 y382 0).f3, a2, (rd_T132 y382 0).f5, (rd_T132 y382 0).f6⟩ : S132) ) (fun _ hk => hk)).1
  rw [← Ny386.out] at HP64
  have HQ64 := zA HP64
  clear hcl64 hcc64 hfr64 hM64 HP64
  have p11 : 0 ≤ (0 : Int) := (by omega)
  have q11 : (0 : Int) < ((y382.length : Int) : Int) := za
  replace p11 := eq_true p11
  replace q11 := eq_true q11
  obtain ⟨ce65, hcl65, hM65, hcc65, hfr65⟩ := Kd.R_elem HQ64.out z132 (0 : Int) (by omega) (by have h_ : (0 : Int) < ((y382.length : Int) : Int) := za; first | exact h_ | (have e_ := (Kd.R_reads' HO384.out).1; omega) | simpa using h_)
  obtain rfl := k132_openM hM65
  have HP65 := (Kd.R_seg HQ64.out (0 : Int) (by omega) (by have h_ : (0 : Int) < ((y382.length : Int) : Int) := za; first | exact h_ | (have e_ := (Kd.R_reads' HO384.out).1; omega) | simpa using h_) (seg := [.int .i64 a3]) (j := 5) hcl65 hcc65 (show 6 ≤ 7 from by decide) (x' := (⟨(rd_T132 y386 0).f0, (rd_T132 y386 0).f1, (rd_T132 y386 0).f2, (rd_T132 y386 0).f3, (rd_T132 y386 0).f4, a3, (rd_T132 y386 0).f6⟩ : S132)) (k132_mkM _ _ _ (⟨(rd_T132 y386 0).f0, (rd_T132 y386 0).f1, (rd_T132 y386 0).f2, (rd_T132 y386 0).f3, (rd_T132 y386 0).f4, a3, (rd_T132 y386 0).f6⟩ : S132) ) (fun _ hk => hk)).1
  rw [← Ny387.out] at HP65
  have HQ65 := zA HP65
  clear hcl65 hcc65 hfr65 hM65 HP65
  refine start_ (n := 12) (S := fun w' => w'.cell? ⟨gb385, 0, none⟩ = some (.int .i64 a0_0) ∧ w'.cell? ⟨gb385, 1, none⟩ = some (.int .i64 a0_1) ∧ w'.cell? ⟨gb385, 2, none⟩ = some (.slice (some ⟨go10, 0, none⟩) y382.length co56) ∧ w'.cell? ⟨gb385, 3, none⟩ = some (.int .i64 a0_3) ∧ w'.cell? ⟨gb385, 4, none⟩ = some (.int .i64 a0_4)) (ds := [11]) #[F,F,F,F,F,F,F,F,F,F,F,F] (by kernel_rfl) rfl rfl ⟨zc0 BK385, zc1 BK385, zc2 BK385, zc3 BK385, zc4 BK385⟩ (fun hHeld => ?_); refine with_tabW impl_FlyPath_rest.tab2 impl_FlyPath_rest.bits2 (fun HT_ HW_ => ?_)
  generalize w62.drew = w63 at HO384 BK376 BK377 BK385 HB GG10 HQ64 HQ65 hf10_0 hf10_1 hf10_2 hf10_3 hf10_4 hf10_5 hf10_6 hx10_0 hx10_1 hx10_2 hx10_3 hx10_4 hx10_5 hx10_6 hHeld ⊢
  refine zq HT_ 0 ?_
  refine zq HT_ 2 ?_
  refine zq HT_ 4 ?_
  refine zq HT_ 5 ?_
  refine zk5 HT_ HW_ hHeld 1 ?_
  refine zq HT_ 6 ?_
  refine zq HT_ 7 ?_
  refine zk5 HT_ HW_ hHeld 3 ?_
  refine zo HT_ 8 (fun K hK => ?_)
  refine skip_ (w1 := ?_) (by rfl) rfl ?_ ?_
  rotate_left
  ·go_simp
   rfl
  refine hK.out _ _ ⟨((cell_far (p := ⟨go10, _, none⟩) (by have h_ := Kd.R_ne (HO384.out) BK385.out (by decide); exact fun e_ => h_ (congrArg some e_)) _).trans (hHeld.1)), ((cell_far (p := ⟨go10, _, none⟩) (by have h_ := Kd.R_ne (HO384.out) BK385.out (by decide); exact fun e_ => h_ (congrArg some e_)) _).trans (hHeld.2.1)), ((cell_far (p := ⟨go10, _, none⟩) (by have h_ := Kd.R_ne (HO384.out) BK385.out (by decide); exact fun e_ => h_ (congrArg some e_)) _).trans (hHeld.2.2.1)), ((cell_far (p := ⟨go10, _, none⟩) (by have h_ := Kd.R_ne (HO384.out) BK385.out (by decide); exact fun e_ => h_ (congrArg some e_)) _).trans (hHeld.2.2.2.1)), ((cell_far (p := ⟨go10, _, none⟩) (by have h_ := Kd.R_ne (HO384.out) BK385.out (by decide); exact fun e_ => h_ (congrArg some e_)) _).trans (hHeld.2.2.2.2))⟩ (fun hHeld => ?_)
  clear hK K
  refine zq HT_ 9 ?_
  refine zq HT_ 10 ?_
  refine zO HT_ 11 (fun K hK => ?_)
  refine skip_ (w1 := ?_) (by rfl) rfl ?_ ?_
  rotate_left
  ·go_simp
   rfl
  refine hK.out _ _ ?_
  clear hK K
  refine done_ (done_of HT_.out (by kernel_rfl)) ?_
  obtain ⟨w66, e_⟩ : ∃ x, x = ((w63.setCell ⟨go10, 4, none⟩ (.int .i64 a2)).setCell ⟨go10, 5, none⟩ (.int .i64 a3)) := ⟨_, rfl⟩
  have n0_ : Aside0 (Kd.R k132 132 w66 w.heap.size (fun _ => True) (.slice (some ⟨go10, 0, none⟩) y382.length co56) y387) := by rw [e_]; exact ⟨zr HQ65⟩
  have n1_ : Aside0 (w66.heap[gb376]? = some (.cells #[.int .i64 a0_0, .int .i64 a0_1, .slice A0_2 l0_2.length c0_2, .int .i64 a0_3, .int .i64 a0_4] 68 (0, 0))) := by rw [e_]; exact ⟨by (with_reducible repeat (first | refine blk_drewN ?_ _ | refine blk_drew ?_ | refine blk_alloc ?_ _)); refine blk_far ?_ (by have h_ := Kd.R_ne HO384.out BK376.out (by decide); intro e_; exact h_ (by rw [e_]; rfl)) _; (with_reducible repeat (first | refine blk_drewN ?_ _ | refine blk_drew ?_ | refine blk_alloc ?_ _)); refine blk_far ?_ (by have h_ := Kd.R_ne HO384.out BK376.out (by decide); intro e_; exact h_ (by rw [e_]; rfl)) _; (with_reducible repeat (first | refine blk_drewN ?_ _ | refine blk_drew ?_ | refine blk_alloc ?_ _)); exact BK376.out⟩
  have n2_ : Aside0 (w66.heap[gb377]? = some (.cells #[.int .i64 0, .int .i64 0, .slice none 0 0, .int .i64 0, .int .i64 0] 68 (0, 0))) := by rw [e_]; exact ⟨by (with_reducible repeat (first | refine blk_drewN ?_ _ | refine blk_drew ?_ | refine blk_alloc ?_ _)); refine blk_far ?_ (by have h_ := Kd.R_ne HO384.out BK377.out (by decide); intro e_; exact h_ (by rw [e_]; rfl)) _; (with_reducible repeat (first | refine blk_drewN ?_ _ | refine blk_drew ?_ | refine blk_alloc ?_ _)); refine blk_far ?_ (by have h_ := Kd.R_ne HO384.out BK377.out (by decide); intro e_; exact h_ (by rw [e_]; rfl)) _; (with_reducible repeat (first | refine blk_drewN ?_ _ | refine blk_drew ?_ | refine blk_alloc ?_ _)); exact BK377.out⟩
  have n3_ : Aside0 (w66.heap[gb385]? = some (.cells #[.int .i64 a0_0, .int .i64 a0_1, .slice (some ⟨go10, 0, none⟩) y382.length co56, .int .i64 a0_3, .int .i64 a0_4] 68 (0, 0))) := by rw [e_]; exact ⟨by (with_reducible repeat (first | refine blk_drewN ?_ _ | refine blk_drew ?_ | refine blk_alloc ?_ _)); refine blk_far ?_ (by have h_ := Kd.R_ne HO384.out BK385.out (by decide); intro e_; exact h_ (by rw [e_]; rfl)) _; (with_reducible repeat (first | refine blk_drewN ?_ _ | refine blk_drew ?_ | refine blk_alloc ?_ _)); refine blk_far ?_ (by have h_ := Kd.R_ne HO384.out BK385.out (by decide); intro e_; exact h_ (by rw [e_]; rfl)) _; (with_reducible repeat (first | refine blk_drewN ?_ _ | refine blk_drew ?_ | refine blk_alloc ?_ _)); exact BK385.out⟩
  have n4_ : Aside0 (Below w.heap.size w w66) := by rw [e_]; exact ⟨by repeat (first | (with_reducible first | exact HB.out | apply below_alloc | apply pw_below_drewN | apply below_drew1 | refine below_set ?_ GB10.out | refine below_set ?_ GB10.out | refine below_set ?_ GE376.out | refine below_set ?_ GE377.out | refine below_set ?_ GE385.out) | exact HB.out)⟩
  (try clear HO384)
  (try clear BK376)
  (try clear BK377)
  (try clear BK385)
  (try clear HB)
  rw [← e_]; clear e_
  have HO384 := n0_
  have BK376 := n1_
  have BK377 := n2_
  have BK385 := n3_
  have HB := n4_
  clear n0_ n1_ n2_ n3_ n4_
  have hnb67 := NB385_376.out
  have hnc67 := NB376_385.out
  have hnb68 := NB385_377.out
  have hnc68 := NB377_385.out
  obtain ⟨hcz69_0, hcz69_1, hcz69_2, hcz69_3, hcz69_4⟩ := zd5 BK385
  obtain ⟨hfz69_0, hfz69_1, hfz69_2, hfz69_3, hfz69_4⟩ := zn5 BK385
  try go_wp2
  replace HO384 := zA (Kd.R_drew HO384.out)
  replace BK376 := zA (blk_drew BK376.out)
  replace BK377 := zA (blk_drew BK377.out)
  replace BK385 := zA (blk_drew BK385.out)
  replace HB := zA (below_drew1 HB.out)
  have p388 : 0 ≤ (1 : Int) := (by omega)
  have q388 : 1 < (y387.length : Int) := (by have h_ : (1 : Int) < ((y382.length : Int) : Int) := za; first | (have e_ := (Kd.R_reads' HO384.out).1; omega) | simpa only [Ny386.out, Ny387.out, List.length_set] using h_)
  have ql388 : ((1 : Int) < ((y382.length : Int) : Int)) = True := eq_true (za)
  (try have qn388 : (1 < y382.length) = True := eq_true (by have h_ : (1 : Int) < ((y382.length : Int) : Int) := za; omega))
  obtain ⟨ad388, e388, hx388_0, hx388_1, hx388_2, hx388_3, hx388_4, hx388_5, hx388_6⟩ := at_T132 (Kd.R_reads' HO384.out).2.2 1 p388 q388
  obtain rfl : (⟨go10, 0, none⟩ : Addr) = ad388 := (by injection e388)
  (first | simp only [add_plain] at hx388_0 | simp only [add_at] at hx388_0 | simp only [Addr.add, Nat.zero_add] at hx388_0 | skip)
  (first | simp only [add_plain] at hx388_1 | simp only [add_at] at hx388_1 | simp only [Addr.add, Nat.zero_add] at hx388_1 | skip)
  (first | simp only [add_plain] at hx388_2 | simp only [add_at] at hx388_2 | simp only [Addr.add, Nat.zero_add] at hx388_2 | skip)
  (first | simp only [add_plain] at hx388_3 | simp only [add_at] at hx388_3 | simp only [Addr.add, Nat.zero_add] at hx388_3 | skip)
  (first | simp only [add_plain] at hx388_4 | simp only [add_at] at hx388_4 | simp only [Addr.add, Nat.zero_add] at hx388_4 | skip)
  (first | simp only [add_plain] at hx388_5 | simp only [add_at] at hx388_5 | simp only [Addr.add, Nat.zero_add] at hx388_5 | skip)
  (first | simp only [add_plain] at hx388_6 | simp only [add_at] at hx388_6 | simp only [Addr.add, Nat.zero_add] at hx388_6 | skip)
  have qi388 : (1 < y387.length) = True := eq_true (by omega)
  (try rw [zi1] at hx388_0)
  (try rw [show 1 * 7 = 7 from rfl] at hx388_0)
  (try rw [zi1] at hx388_1)
  (try rw [show 1 * 7 = 7 from rfl] at hx388_1)
  (try rw [zi1] at hx388_2)
  (try rw [show 1 * 7 = 7 from rfl] at hx388_2)
  (try rw [zi1] at hx388_3)
  (try rw [show 1 * 7 = 7 from rfl] at hx388_3)
  (try rw [zi1] at hx388_4)
  (try rw [show 1 * 7 = 7 from rfl] at hx388_4)
  (try rw [zi1] at hx388_5)
  (try rw [show 1 * 7 = 7 from rfl] at hx388_5)
  (try rw [zi1] at hx388_6)
  (try rw [show 1 * 7 = 7 from rfl] at hx388_6)
  replace p388 := eq_true p388
  replace q388 := eq_true q388
  have p15 : 0 ≤ (1 : Int) := (by omega)
  have q15 : (1 : Int) < ((y382.length : Int) : Int) := za
  have qi15 : (1 < y382.length) = True := eq_true (by omega)
  obtain ⟨ce15, hcl15, hM15, hcc15, hfr15⟩ := Kd.R_elem HO384.out z132 (1 : Int) p15 q15
  obtain rfl := k132_openM hM15
  have hx15_0 : World.cell? _ ⟨go10, (1 : Int).toNat * 7, none⟩ = some (.int .i64 ((rd_T132 y387 1).f0)) := hcc15 0 _ rfl
  have hx15_1 : World.cell? _ ⟨go10, (1 : Int).toNat * 7 + 1, none⟩ = some (.int .i64 ((rd_T132 y387 1).f1)) := hcc15 1 _ rfl
  have hx15_2 : World.cell? _ ⟨go10, (1 : Int).toNat * 7 + 2, none⟩ = some (.int .i64 ((rd_T132 y387 1).f2)) := hcc15 2 _ rfl
  have hx15_3 : World.cell? _ ⟨go10, (1 : Int).toNat * 7 + 3, none⟩ = some (.int .i64 ((rd_T132 y387 1).f3)) := hcc15 3 _ rfl
  have hx15_4 : World.cell? _ ⟨go10, (1 : Int).toNat * 7 + 4, none⟩ = some (.int .i64 ((rd_T132 y387 1).f4)) := hcc15 4 _ rfl
  have hx15_5 : World.cell? _ ⟨go10, (1 : Int).toNat * 7 + 5, none⟩ = some (.int .i64 ((rd_T132 y387 1).f5)) := hcc15 5 _ rfl
  have hx15_6 : World.cell? _ ⟨go10, (1 : Int).toNat * 7 + 6, none⟩ = some (.bool ((rd_T132 y387 1).f6)) := hcc15 6 _ rfl
  have hf15_0 : World.frozen? _ ⟨go10, (1 : Int).toNat * 7, none⟩ = false := hfr15 0
  have hf15_1 : World.frozen? _ ⟨go10, (1 : Int).toNat * 7 + 1, none⟩ = false := hfr15 1
  have hf15_2 : World.frozen? _ ⟨go10, (1 : Int).toNat * 7 + 2, none⟩ = false := hfr15 2
  have hf15_3 : World.frozen? _ ⟨go10, (1 : Int).toNat * 7 + 3, none⟩ = false := hfr15 3
  have hf15_4 : World.frozen? _ ⟨go10, (1 : Int).toNat * 7 + 4, none⟩ = false := hfr15 4
  have hf15_5 : World.frozen? _ ⟨go10, (1 : Int).toNat * 7 + 5, none⟩ = false := hfr15 5
  have hf15_6 : World.frozen? _ ⟨go10, (1 : Int).toNat * 7 + 6, none⟩ = false := hfr15 6
  clear hcl15 hcc15 hfr15 hM15
  (try rw [zi1] at hx15_0)
  (try simp only [Nat.zero_mul, Nat.zero_add] at hx15_0)
  (try rw [zi1] at hf15_0)
  (try simp only [Nat.zero_mul, Nat.zero_add] at hf15_0)
  (try rw [zi1] at hx15_1)
  (try simp only [Nat.zero_mul, Nat.zero_add] at hx15_1)
  (try rw [zi1] at hf15_1)
  (try simp only [Nat.zero_mul, Nat.zero_add] at hf15_1)
  (try rw [zi1] at hx15_2)
  (try simp only [Nat.zero_mul, Nat.zero_add] at hx15_2)
  (try rw [zi1] at hf15_2)
  (try simp only [Nat.zero_mul, Nat.zero_add] at hf15_2)
  (try rw [zi1] at hx15_3)
  (try simp only [Nat.zero_mul, Nat.zero_add] at hx15_3)
  (try rw [zi1] at hf15_3)
  (try simp only [Nat.zero_mul, Nat.zero_add] at hf15_3)
  (try rw [zi1] at hx15_4)
  (try simp only [Nat.zero_mul, Nat.zero_add] at hx15_4)
  (try rw [zi1] at hf15_4)
  (try simp only [Nat.zero_mul, Nat.zero_add] at hf15_4)
  (try rw [zi1] at hx15_5)
  (try simp only [Nat.zero_mul, Nat.zero_add] at hx15_5)
  (try rw [zi1] at hf15_5)
  (try simp only [Nat.zero_mul, Nat.zero_add] at hf15_5)
  (try rw [zi1] at hx15_6)
  (try simp only [Nat.zero_mul, Nat.zero_add] at hx15_6)
  (try rw [zi1] at hf15_6)
  (try simp only [Nat.zero_mul, Nat.zero_add] at hf15_6)
  replace p15 := eq_true p15
  replace q15 := eq_true q15
  obtain ⟨ce71, hcl71, hM71, hcc71, hfr71⟩ := Kd.R_elem HO384.out z132 (1 : Int) (by omega) (by have h_ : (1 : Int) < ((y382.length : Int) : Int) := za; first | exact h_ | (have e_ := (Kd.R_reads' HO384.out).1; omega) | simpa using h_)
  obtain rfl := k132_openM hM71
  have HP71 := (Kd.R_seg HO384.out (1 : Int) (by omega) (by have h_ : (1 : Int) < ((y382.length : Int) : Int) := za; first | exact h_ | (have e_ := (Kd.R_reads' HO384.out).1; omega) | simpa using h_) (seg := [.int .i64 ji14]) (j := 4) hcl71 hcc71 (show 5 ≤ 7 from by decide) (x' := (⟨(rd_T132 y387 1).f0, (rd_T132 y387 1).f1, (rd_T132 y387 1).f2, (rd_T132 y387 1).f3, ji14, (rd_T132 y387 1).f5, (rd_T132 y387 1).f6⟩ : S132)) (k132_mkM _ _ _ (⟨(rd_T132 y387 1).f0, (rd_T132 y387 1).f1, (rd_T132 y387 1).f2, (rd_T132 y387 1).f3, ji14, (rd_T132 y387 1).f5, (rd_T132 y387 1).f6⟩ : S132) ) (fun _ hk => hk)).1
  rw [← Ny389.out] at HP71
  have HQ71 := zA HP71
  clear hcl71 hcc71 hfr71 hM71 HP71
  refine start_ (n := 13) (S := fun w' => w'.cell? ⟨gb385, 0, none⟩ = some (.int .i64 a0_0) ∧ w'.cell? ⟨gb385, 1, none⟩ = some (.int .i64 a0_1) ∧ w'.cell? ⟨gb385, 2, none⟩ = some (.slice (some ⟨go10, 0, none⟩) y382.length co56) ∧ w'.cell? ⟨gb385, 3, none⟩ = some (.int .i64 a0_3) ∧ w'.cell? ⟨gb385, 4, none⟩ = some (.int .i64 a0_4) ∧ w'.cell? ⟨go10, 7, none⟩ = some (.int .i64 ((rd_T132 y387 1).f0)) ∧ w'.cell? ⟨go10, 8, none⟩ = some (.int .i64 ((rd_T132 y387 1).f1)) ∧ w'.cell? ⟨go10, 9, none⟩ = some (.int .i64 ((rd_T132 y387 1).f2)) ∧ w'.cell? ⟨go10, 10, none⟩ = some (.int .i64 ((rd_T132 y387 1).f3)) ∧ w'.cell? ⟨go10, 11, none⟩ = some (.int .i64 ((rd_T132 y387 1).f4)) ∧ w'.cell? ⟨go10, 12, none⟩ = some (.int .i64 ((rd_T132 y387 1).f5)) ∧ w'.cell? ⟨go10, 13, none⟩ = some (.bool ((rd_T132 y387 1).f6))) (ds := [12]) #[F,F,F,F,F,F,F,F,F,F,F,F,F] (by kernel_rfl) rfl rfl ⟨zc0 BK385, zc1 BK385, zc2 BK385, zc3 BK385, zc4 BK385, hx388_0, hx388_1, hx388_2, hx388_3, hx388_4, hx388_5, hx388_6⟩ (fun hHeld => ?_); refine with_tabW impl_FlyPath_rest.tab4 impl_FlyPath_rest.bits4 (fun HT_ HW_ => ?_)
  generalize w66.drew = w70 at HO384 BK376 BK377 BK385 HB HQ71 hf15_0 hf15_1 hf15_2 hf15_3 hf15_4 hf15_5 hf15_6 hx15_0 hx15_1 hx15_2 hx15_3 hx15_4 hx15_5 hx15_6 hx388_0 hx388_1 hx388_2 hx388_3 hx388_4 hx388_5 hx388_6 hHeld ⊢
  refine zq HT_ 0 ?_
  refine zq HT_ 2 ?_
  refine zq HT_ 7 ?_
  refine zq HT_ 8 ?_
  refine zk12 HT_ HW_ hHeld 1 ?_
  refine zk12 HT_ HW_ hHeld 3 ?_
  refine zq HT_ 4 ?_
  refine zq HT_ 5 ?_
  refine zk12 HT_ HW_ hHeld 6 ?_
  refine zq HT_ 9 ?_
  refine zq HT_ 10 ?_
  refine zq HT_ 11 ?_
  refine zO HT_ 12 (fun K hK => ?_)
  refine skip_ (w1 := ?_) (by rfl) rfl ?_ ?_
  rotate_left
  ·go_simp
   rfl
  refine hK.out _ _ ?_
  clear hK K
  refine done_ (done_of HT_.out (by kernel_rfl)) ?_
  have n0_ : Aside0 (Kd.R k132 132 (w70.setCell ⟨go10, 11, none⟩ (.int .i64 ji14)) w.heap.size (fun _ => True) (.slice (some ⟨go10, 0, none⟩) y382.length co56) y389) := ⟨zr HQ71⟩
  have n1_ : Aside0 ((w70.setCell ⟨go10, 11, none⟩ (.int .i64 ji14)).heap[gb376]? = some (.cells #[.int .i64 a0_0, .int .i64 a0_1, .slice A0_2 l0_2.length c0_2, .int .i64 a0_3, .int .i64 a0_4] 68 (0, 0))) := ⟨by (with_reducible repeat (first | refine blk_drewN ?_ _ | refine blk_drew ?_ | refine blk_alloc ?_ _)); refine blk_far ?_ (by have h_ := Kd.R_ne HO384.out BK376.out (by decide); intro e_; exact h_ (by rw [e_]; rfl)) _; (with_reducible repeat (first | refine blk_drewN ?_ _ | refine blk_drew ?_ | refine blk_alloc ?_ _)); exact BK376.out⟩
  have n2_ : Aside0 ((w70.setCell ⟨go10, 11, none⟩ (.int .i64 ji14)).heap[gb377]? = some (.cells #[.int .i64 0, .int .i64 0, .slice none 0 0, .int .i64 0, .int .i64 0] 68 (0, 0))) := ⟨by (with_reducible repeat (first | refine blk_drewN ?_ _ | refine blk_drew ?_ | refine blk_alloc ?_ _)); refine blk_far ?_ (by have h_ := Kd.R_ne HO384.out BK377.out (by decide); intro e_; exact h_ (by rw [e_]; rfl)) _; (with_reducible repeat (first | refine blk_drewN ?_ _ | refine blk_drew ?_ | refine blk_alloc ?_ _)); exact BK377.out⟩
  have n3_ : Aside0 ((w70.setCell ⟨go10, 11, none⟩ (.int .i64 ji14)).heap[gb385]? = some (.cells #[.int .i64 a0_0, .int .i64 a0_1, .slice (some ⟨go10, 0, none⟩) y382.length co56, .int .i64 a0_3, .int .i64 a0_4] 68 (0, 0))) := ⟨by (with_reducible repeat (first | refine blk_drewN ?_ _ | refine blk_drew ?_ | refine blk_alloc ?_ _)); refine blk_far ?_ (by have h_ := Kd.R_ne HO384.out BK385.out (by decide); intro e_; exact h_ (by rw [e_]; rfl)) _; (with_reducible repeat (first | refine blk_drewN ?_ _ | refine blk_drew ?_ | refine blk_alloc ?_ _)); exact BK385.out⟩
  have n4_ : Aside0 (Below w.heap.size w (w70.setCell ⟨go10, 11, none⟩ (.int .i64 ji14))) := ⟨by repeat (first | (with_reducible first | exact HB.out | apply below_alloc | apply pw_below_drewN | apply below_drew1 | refine below_set ?_ GB10.out | refine below_set ?_ GE376.out | refine below_set ?_ GE377.out | refine below_set ?_ GE385.out) | exact HB.out)⟩
  (try clear HO384)
  (try clear BK376)
  (try clear BK377)
  (try clear BK385)
  (try clear HB)
  generalize (w70.setCell ⟨go10, 11, none⟩ (.int .i64 ji14)) = w72 at n0_ n1_ n2_ n3_ n4_ ⊢
  have HO384 := n0_
  have BK376 := n1_
  have BK377 := n2_
  have BK385 := n3_
  have HB := n4_
  clear n0_ n1_ n2_ n3_ n4_
  obtain ⟨hcz73_0, hcz73_1, hcz73_2, hcz73_3, hcz73_4⟩ := zd5 BK385
  obtain ⟨hfz73_0, hfz73_1, hfz73_2, hfz73_3, hfz73_4⟩ := zn5 BK385
  try go_wp2_with (first | ((with_reducible refine gate_callee (f := 74) rfl ?_); refine goesL_ (some 61) rfl rfl Try.func74 (by kernel_rfl) rfl #[.agg #[.int .i64 a0_0, .int .i64 a0_1, .slice (some ⟨go10, 0, none⟩) y389.length co56, .int .i64 a0_3, .int .i64 a0_4]] rfl (by (try simp only [List.map_toArray, List.map_cons, List.map_nil]); first | done | (rw [show y389.length = y382.length from (Kd.R_reads' HO384.out).1.symm] <;> rfl) | rfl | (simp only [List.length_drop, List.length_take]; rfl)) ?_; (with_reducible refine (impl_FlySpans.calls k a0_0 a0_1 _ _ y389 a0_3 a0_4 t390 false _ ?side1 ?side2 A16.out).mono ?_); (case side1 => repeat (first | exact (Kd.R_reads' HO384.out).2.2 | (with_reducible refine Kd.C_alloc ?_ _) | (with_reducible refine Kd.C_drewN ?_ _) | (with_reducible refine Kd.C_drew ?_))); (case side2 => rw [show y389.length = y382.length from (Kd.R_reads' HO384.out).1.symm]; exact (Kd.R_reads' HO384.out).2.1); rintro e w74 ⟨v391, rfl, ho0, hb⟩; refine ⟨_, rfl, ?_⟩; have HO392 := zA (Kd.R_lower ho0 (below_size (zs3 HB GE376 GE377 GE385))); replace HO384 := zA (Kd.R_below (zr HO384) hb); replace BK376 := zb BK376 hb; replace BK377 := zb BK377 hb; replace BK385 := zb BK385 hb; replace HB := zE (zs3 HB GE376 GE377 GE385) hb; (try clear hb); (try clear hb2); (try clear hk); (try clear hi); (try clear ho0); have hnb75 := NB377_376.out; have hnc75 := NB376_377.out; obtain ⟨hcz76_0, hcz76_1, hcz76_2, hcz76_3, hcz76_4⟩ := zd5 BK377; obtain ⟨hfz76_0, hfz76_1, hfz76_2, hfz76_3, hfz76_4⟩ := zn5 BK377))
  refine bodyPost_ret (results_ct rfl _ _ gb377 68 #[.int .i64 0, .int .i64 0, .slice none 0 0, .int .i64 0, .int .i64 0] (0, 0) _ rfl ?hz Try.underlying68 rfl (by kernel_rfl)) rfl ?_; (case hz => exact zpb BK377)
  exact ⟨_, by first | rfl | (simp [errW_none, errW_some] <;> rfl) | (simp only [← hji14]; first | rfl | (simp [errW_none, errW_some] <;> rfl)) | (simp [*, errW_none, errW_some] <;> rfl), by first | exact Kd.R_nil _ _ _ _ _ | exact Kd.N_nil _ _ _ _ _ | exact Kd.V_nil _ _ _ _ _ | exact Kd.Q_nil _ _ _ _ _ | exact Kd.S_nil _ _ _ _ _, zs3 HB GE376 GE377 GE385⟩
 subst c17
 have H1 : (some (a0_0, a0_1, y389, a0_3, a0_4, true)) = some (r1, r2, r3, r4, r5, r6) := by rw [if_pos rfl] at H; exact H
 clear H
 have H := H1
 clear H1
 simp only [Option.some.injEq, Prod.mk.injEq] at H
 obtain ⟨rfl, rfl, rfl, rfl, rfl, rfl⟩ := H
 go_enter Try.func133, Try.ntmps133
 try go_wp2_with (first | ((with_reducible refine gate_dst (N := 5) rfl ?_); refine zbx 5 #[.int .i64 a0_0, .int .i64 a0_1, .slice A0_2 l0_2.length c0_2, .int .i64 a0_3, .int .i64 a0_4] 68 ?_; intro gb376 hg w18 hbox hb; have BK376 := zA hbox; have GW376 := zgs hg (zs0 HB); have GE376 := zgs hg (zs0 HB); replace HB := zE (zs0 HB) hb; clear hb hbox hg) | ((with_reducible refine gate_dst (N := 10) rfl ?_); refine zbx 10 #[.int .i64 0, .int .i64 0, .slice none 0 0, .int .i64 0, .int .i64 0] 68 ?_; intro gb377 hg w19 hbox hb; have BK377 := zA hbox; have GW377 := zgs hg (zs1 HB GE376); have GE377 := zgs hg (zs1 HB GE376); have NB376_377 := zne hg BK376; have NB377_376 := znf hg BK376; replace BK376 := zb BK376 hb; replace HB := zE (zs1 HB GE376) hb; clear hb hbox hg))
 replace BK376 := zA (blk_drew BK376.out)
 replace BK377 := zA (blk_drew BK377.out)
 replace HB := zA (below_drew1 HB.out)
 have q21 : (a1 : Int) ≤ ((l0_2.length : Int) : Int) := za
 obtain ⟨i021, hi021, _, hsz21, _⟩ := info_parts info132
 have hroom21 : l0_2.length ≤ c0_2 := HC0_2.out
 have hC21 : Kd.C k132 _ A0_2 l0_2.length l0_2 := HR0_2.out
 have q021 : (0 : Int) ≤ (a1 : Int) := za
 have hcut21 := cut_from (P := Try.prog) 66 132 .i64 Try.underlying66 hi021 7 hsz21 A0_2 l0_2.length c0_2 a1 q021 q21
 have hr21 := Kd.C_drop (m := (a1 : Int).toNat) (c := c0_2) hC21 (by omega) hroom21
 obtain ⟨A21, hA21⟩ : ∃ A1, A1 = (if c0_2 = (a1 : Int).toNat then A0_2 else (A0_2 : Option Addr).map (·.add ((a1 : Int).toNat * 7))) := ⟨_, rfl⟩
 obtain ⟨c21, hc21⟩ : ∃ c1, c1 = c0_2 - (a1 : Int).toNat := ⟨_, rfl⟩
 have hy21 : y378.length = l0_2.length - (a1 : Int).toNat := (by rw [Ny378.out, List.length_drop] <;> omega)
 rw [show (l0_2).drop (a1 : Int).toNat = y378 from Ny378.out.symm] at hr21
 replace hr21 : Kd.C k132 _ A21 y378.length y378 := (by rw [hA21]; exact hr21)
 rw [← hy21, ← hA21, ← hc21] at hcut21
 have HR381 := zA hr21
 have HC381 := zA (show y378.length ≤ c21 from by rw [hy21, hc21]; exact Nat.sub_le_sub_right hroom21 _)
 clear hr21 hC21 hroom21 hi021 hsz21 hc21
 have KY21 := zA hy21
 have KA21 := zA hA21
 clear hy21 hA21
 replace q21 := eq_true q21
 refine start_ (n := 14) (S := fun w' => w'.cell? ⟨gb376, 0, none⟩ = some (.int .i64 a0_0) ∧ w'.cell? ⟨gb376, 1, none⟩ = some (.int .i64 a0_1) ∧ w'.cell? ⟨gb376, 2, none⟩ = some (.slice A0_2 l0_2.length c0_2) ∧ w'.cell? ⟨gb376, 3, none⟩ = some (.int .i64 a0_3) ∧ w'.cell? ⟨gb376, 4, none⟩ = some (.int .i64 a0_4)) (ds := []) #[F,F,F,F,F,F,F,F,F,F,F,F,F,F] (by kernel_rfl) rfl rfl ⟨zc0 BK376, zc1 BK376, zc2 BK376, zc3 BK376, zc4 BK376⟩ (fun hHeld => ?_); refine with_tabW impl_FlyPath_rest.tab1 impl_FlyPath_rest.bits1 (fun HT_ HW_ => ?_)
 generalize w19.drew = w20 at BK376 BK377 HB HR381 hHeld ⊢
 refine zq HT_ 0 ?_
 refine zq HT_ 2 ?_
 refine zq HT_ 4 ?_
 refine zq HT_ 7 ?_
 refine zq HT_ 9 ?_
 refine zk5 HT_ HW_ hHeld 1 ?_
 refine zk5 HT_ HW_ hHeld 3 ?_
 refine zq HT_ 5 ?_
 refine zk5 HT_ HW_ hHeld 8 ?_
 refine zk5 HT_ HW_ hHeld 10 ?_
 refine join_ (σ := Value × Nat) 1 #[T,T,T,T,T,T,T,T,T,T,T,T,T,F] (fun s_ => [(21, s_.1), (12, .pointer (some ⟨s_.2, 0, none⟩)), (26, .agg #[.int .i64 a0_0, .int .i64 a0_1, s_.1, .int .i64 a0_3, .int .i64 a0_4])]) (fun s_ w' => (w'.cell? ⟨gb376, 0, none⟩ = some (.int .i64 a0_0) ∧ w'.cell? ⟨gb376, 1, none⟩ = some (.int .i64 a0_1) ∧ w'.cell? ⟨gb376, 2, none⟩ = some (.slice A0_2 l0_2.length c0_2) ∧ w'.cell? ⟨gb376, 3, none⟩ = some (.int .i64 a0_3) ∧ w'.cell? ⟨gb376, 4, none⟩ = some (.int .i64 a0_4)) ∧ (Kd.R k132 132 w' w.heap.size (fun _ => True) s_.1 y382) ∧ (w'.heap[gb376]? = some (.cells #[.int .i64 a0_0, .int .i64 a0_1, .slice A0_2 l0_2.length c0_2, .int .i64 a0_3, .int .i64 a0_4] 68 (0, 0))) ∧ (w'.heap[gb377]? = some (.cells #[.int .i64 0, .int .i64 0, .slice none 0 0, .int .i64 0, .int .i64 0] 68 (0, 0))) ∧ (w'.heap[s_.2]? = some (.cells #[.int .i64 0, .int .i64 0, .slice none 0 0, .int .i64 0, .int .i64 0] 68 (0, 0))) ∧ (w.heap.size ≤ s_.2) ∧ (w.heap.size ≤ s_.2) ∧ (gb376 ≠ s_.2) ∧ (s_.2 ≠ gb376) ∧ (gb377 ≠ s_.2) ∧ (s_.2 ≠ gb377) ∧ (Below w.heap.size w w')) ?_ ?_
 rotate_left
 ·intro hCont
  refine two_ (i := 6) (j := 12) (Ni := some 21) (Nj := some 12) #[T,T,T,T,T,T,T,T,T,T,T,F,F,F] #[T,T,T,T,T,T,F,T,T,T,T,F,T,F] rfl rfl rfl rfl (two_of HT_.out (by kernel_rfl)) (by decide) (by decide) (fun K hK => ?_) (fun K hK => ?_)
  ·skip
   refine Kd.R_append_rows_step k132 (w0 := w) w.heap.size rfl (.const (.slice none 0 0)) (.tmp 20) 66 132 (.agg #[(.int .i64 0), (.int .i64 0), (.int .i64 0), (.int .i64 0), (.int .i64 0), (.int .i64 0), (.bool false)]) 56 rfl Try.underlying66 info132 rfl (by decide) (by omega) (.slice none 0 0) ([] : List (S132)) y378 _ _ _ (fun _ => True) (fun _ => False) rfl rfl ?aO ?aR (fun _ _ h => h) (fun _ h => h.elim) ?aF ?aB ?aS ?aL ?_
   (case aR => repeat (first | exact (Kd.C_below HR381.out HB.out) | (with_reducible refine Kd.C_alloc ?_ _) | (with_reducible refine Kd.C_drewN ?_ _) | (with_reducible refine Kd.C_drew ?_)))
   (case aB => exact (zs2 HB GE376 GE377))
   (case aF => exact (fun _ _ => trivial))
   (case aO => exact ((Kd.R_nil _ _ _ _ (fun _ => True))))
   (case aS => exact (below_size (zs2 HB GE376 GE377)))
   (case aL => have := LMc8.out; omega)
   intro v383 w22 ho hb hg hat
   rw [← Ny382.out] at ho
   have HO384 := zA (ho)
   replace BK376 := zA (blk_grown (g := gb376) (o := .cells #[.int .i64 a0_0, .int .i64 a0_1, .slice A0_2 l0_2.length c0_2, .int .i64 a0_3, .int .i64 a0_4] 68 (0, 0)) (zh BK376) hg (by simp [Value.ownBlock]))
   replace BK377 := zA (blk_grown (g := gb377) (o := .cells #[.int .i64 0, .int .i64 0, .slice none 0 0, .int .i64 0, .int .i64 0] 68 (0, 0)) (zh BK377) hg (by simp [Value.ownBlock]))
   replace HB := zA (hb)
   clear ho hb hg hat
   obtain ⟨Ao23, co23, eo23⟩ := Kd.R_slice HO384.out
   (first | subst eo23 | (injection eo23 with f1_ f2_ f3_; have f4_ := f1_.symm; have f5_ := f3_.symm; clear f1_ f2_ f3_; subst f4_; subst f5_))
   refine hK.out _ _ ⟨zc0 BK376, zc1 BK376, zc2 BK376, zc3 BK376, zc4 BK376⟩ (fun hHeld => ?_)
   clear hK K
   refine zN ?_
   refine zq HT_ 11 ?_
   refine zo HT_ 12 (fun K hK => ?_)
   refine box_step (by rfl) (N := 12) (by rfl) (cs := #[.int .i64 0, .int .i64 0, .slice none 0 0, .int .i64 0, .int .i64 0]) (t := 68) zg ?_
   intro gb385 hg w24 hbox hb
   have BK385 := zA hbox
   have GW385 := zgs hg (zs2 HB GE376 GE377)
   have GE385 := zgs hg (zs2 HB GE376 GE377)
   have NB376_385 := zne hg BK376
   have NB385_376 := znf hg BK376
   have NB377_385 := zne hg BK377
   have NB385_377 := znf hg BK377
   replace HO384 := zA (Kd.R_below (zr HO384) hb)
   replace BK376 := zb BK376 hb
   replace BK377 := zb BK377 hb
   replace HB := zE (zs2 HB GE376 GE377) hb
   clear hb hbox hg
   refine hK.out _ _ ⟨zc0 BK376, zc1 BK376, zc2 BK376, zc3 BK376, zc4 BK376⟩ (fun hHeld => ?_)
   clear hK K
   refine zN ?_
   exact norm_ (by simp only [putAll, Act.put, List.setIfInBounds_toArray, List.set_cons_zero, List.set_cons_succ]) (hCont (.slice Ao23 y382.length co23, gb385) _ ⟨hHeld, (zr HO384), (zh BK376), (zh BK377), (zh BK385), GW385.out, GE385.out, NB376_385.out, NB385_376.out, NB377_385.out, NB385_377.out, (zs3 HB GE376 GE377 GE385)⟩)
  ·skip
   refine box_step (by rfl) (N := 12) (by rfl) (cs := #[.int .i64 0, .int .i64 0, .slice none 0 0, .int .i64 0, .int .i64 0]) (t := 68) zg ?_
   intro gb385 hg w22 hbox hb
   have BK385 := zA hbox
   have GW385 := zgs hg (zs2 HB GE376 GE377)
   have GE385 := zgs hg (zs2 HB GE376 GE377)
   have NB376_385 := zne hg BK376
   have NB385_376 := znf hg BK376
   have NB377_385 := zne hg BK377
   have NB385_377 := znf hg BK377
   replace BK376 := zb BK376 hb
   replace BK377 := zb BK377 hb
   replace HB := zE (zs2 HB GE376 GE377) hb
   clear hb hbox hg
   refine hK.out _ _ ⟨zc0 BK376, zc1 BK376, zc2 BK376, zc3 BK376, zc4 BK376⟩ (fun hHeld => ?_)
   clear hK K
   refine zN ?_
   refine zo HT_ 6 (fun K hK => ?_)
   refine Kd.R_append_rows_step k132 (w0 := w) w.heap.size rfl (.const (.slice none 0 0)) (.tmp 20) 66 132 (.agg #[(.int .i64 0), (.int .i64 0), (.int .i64 0), (.int .i64 0), (.int .i64 0), (.int .i64 0), (.bool false)]) 56 rfl Try.underlying66 info132 rfl (by decide) (by omega) (.slice none 0 0) ([] : List (S132)) y378 _ _ _ (fun _ => True) (fun _ => False) rfl rfl ?aO ?aR (fun _ _ h => h) (fun _ h => h.elim) ?aF ?aB ?aS ?aL ?_
   (case aR => repeat (first | exact (Kd.C_below HR381.out HB.out) | (with_reducible refine Kd.C_alloc ?_ _) | (with_reducible refine Kd.C_drewN ?_ _) | (with_reducible refine Kd.C_drew ?_)))
   (case aB => exact (zs3 HB GE376 GE377 GE385))
   (case aF => exact (fun _ _ => trivial))
   (case aO => exact ((Kd.R_nil _ _ _ _ (fun _ => True))))
   (case aS => exact (below_size (zs3 HB GE376 GE377 GE385)))
   (case aL => have := LMc8.out; omega)
   intro v383 w23 ho hb hg hat
   rw [← Ny382.out] at ho
   have HO384 := zA (ho)
   replace BK376 := zA (blk_grown (g := gb376) (o := .cells #[.int .i64 a0_0, .int .i64 a0_1, .slice A0_2 l0_2.length c0_2, .int .i64 a0_3, .int .i64 a0_4] 68 (0, 0)) (zh BK376) hg (by simp [Value.ownBlock]))
   replace BK377 := zA (blk_grown (g := gb377) (o := .cells #[.int .i64 0, .int .i64 0, .slice none 0 0, .int .i64 0, .int .i64 0] 68 (0, 0)) (zh BK377) hg (by simp [Value.ownBlock]))
   replace BK385 := zA (blk_grown (g := gb385) (o := .cells #[.int .i64 0, .int .i64 0, .slice none 0 0, .int .i64 0, .int .i64 0] 68 (0, 0)) (zh BK385) hg (by simp [Value.ownBlock]))
   replace HB := zA (hb)
   clear ho hb hg hat
   obtain ⟨Ao24, co24, eo24⟩ := Kd.R_slice HO384.out
   (first | subst eo24 | (injection eo24 with f1_ f2_ f3_; have f4_ := f1_.symm; have f5_ := f3_.symm; clear f1_ f2_ f3_; subst f4_; subst f5_))
   refine hK.out _ _ ⟨zc0 BK376, zc1 BK376, zc2 BK376, zc3 BK376, zc4 BK376⟩ (fun hHeld => ?_)
   clear hK K
   refine zN ?_
   refine zq HT_ 11 ?_
   exact norm_ (by simp only [putAll, Act.put, List.setIfInBounds_toArray, List.set_cons_zero, List.set_cons_succ]) (hCont (.slice Ao24 y382.length co24, gb385) _ ⟨hHeld, (zr HO384), (zh BK376), (zh BK377), (zh BK385), GW385.out, GE385.out, NB376_385.out, NB385_376.out, NB377_385.out, NB385_377.out, (zs3 HB GE376 GE377 GE385)⟩)
 rintro ⟨v383, gb385⟩ w25 ⟨hS_, h0_, h1_, h2_, h3_, h4_, h5_, h6_, h7_, h8_, h9_, h10_⟩
 have HO384 : Aside0 (Kd.R k132 132 w25 w.heap.size (fun _ => True) v383 y382) := ⟨h0_⟩
 have BK385 : Aside0 (w25.heap[gb385]? = some (.cells #[.int .i64 0, .int .i64 0, .slice none 0 0, .int .i64 0, .int .i64 0] 68 (0, 0))) := ⟨h3_⟩
 have GW385 : Aside0 (w.heap.size ≤ gb385) := ⟨h4_⟩
 have GE385 : Aside0 (w.heap.size ≤ gb385) := ⟨h5_⟩
 have NB376_385 : Aside0 (gb376 ≠ gb385) := ⟨h6_⟩
 have NB385_376 : Aside0 (gb385 ≠ gb376) := ⟨h7_⟩
 have NB377_385 : Aside0 (gb377 ≠ gb385) := ⟨h8_⟩
 have NB385_377 : Aside0 (gb385 ≠ gb377) := ⟨h9_⟩
 replace BK376 : Aside0 (w25.heap[gb376]? = some (.cells #[.int .i64 a0_0, .int .i64 a0_1, .slice A0_2 l0_2.length c0_2, .int .i64 a0_3, .int .i64 a0_4] 68 (0, 0))) := ⟨h1_⟩
 replace BK377 : Aside0 (w25.heap[gb377]? = some (.cells #[.int .i64 0, .int .i64 0, .slice none 0 0, .int .i64 0, .int .i64 0] 68 (0, 0))) := ⟨h2_⟩
 replace HB : Aside0 (Below w.heap.size w w25) := ⟨h10_⟩
 clear h0_ h1_ h2_ h3_ h4_ h5_ h6_ h7_ h8_ h9_ h10_
 have hHeld : w25.cell? ⟨gb376, 0, none⟩ = some (.int .i64 a0_0) ∧ w25.cell? ⟨gb376, 1, none⟩ = some (.int .i64 a0_1) ∧ w25.cell? ⟨gb376, 2, none⟩ = some (.slice A0_2 l0_2.length c0_2) ∧ w25.cell? ⟨gb376, 3, none⟩ = some (.int .i64 a0_3) ∧ w25.cell? ⟨gb376, 4, none⟩ = some (.int .i64 a0_4) := hS_
 obtain ⟨Ao26, co26, eo26⟩ := Kd.R_slice HO384.out
 (first | subst eo26 | (injection eo26 with f1_ f2_ f3_; have f4_ := f1_.symm; have f5_ := f3_.symm; clear f1_ f2_ f3_; subst f4_; subst f5_))
 refine norm_ (a' := ?_) ?_ ?_
 rotate_left
 ·simp only [putAll, Act.put, List.setIfInBounds_toArray, List.set_cons_zero, List.set_cons_succ]
  rfl
 refine zo HT_ 13 (fun K hK => ?_)
 have hs27 : w25.cell? ⟨gb385, 0, none⟩ = some (.int .i64 0) := zc0 BK385
 have hfs27 := zf BK385 0
 have hns27_0 := NB376_385.out
 have hns27_1 := NB377_385.out
 have hms27_0 := NB385_376.out
 have hms27_1 := NB385_377.out
 have hs28 : w25.cell? ⟨gb385, 1, none⟩ = some (.int .i64 0) := zc1 BK385
 have hfs28 := zf BK385 1
 have hns28_0 := NB376_385.out
 have hns28_1 := NB377_385.out
 have hms28_0 := NB385_376.out
 have hms28_1 := NB385_377.out
 have hs29 : w25.cell? ⟨gb385, 2, none⟩ = some (.slice none 0 0) := zc2 BK385
 have hfs29 := zf BK385 2
 have hns29_0 := NB376_385.out
 have hns29_1 := NB377_385.out
 have hms29_0 := NB385_376.out
 have hms29_1 := NB385_377.out
 have hs30 : w25.cell? ⟨gb385, 3, none⟩ = some (.int .i64 0) := zc3 BK385
 have hfs30 := zf BK385 3
 have hns30_0 := NB376_385.out
 have hns30_1 := NB377_385.out
 have hms30_0 := NB385_376.out
 have hms30_1 := NB385_377.out
 have hs31 : w25.cell? ⟨gb385, 4, none⟩ = some (.int .i64 0) := zc4 BK385
 have hfs31 := zf BK385 4
 have hns31_0 := NB376_385.out
 have hns31_1 := NB377_385.out
 have hms31_0 := NB385_376.out
 have hms31_1 := NB385_377.out
 refine skip_ (w1 := ?_) (by rfl) rfl ?_ ?_
 rotate_left
 ·go_simp
  rfl
 refine hK.out _ _ (zcf hHeld NB376_385) (fun hHeld => ?_)
 clear hK K
 refine done_ (done_of HT_.out (by kernel_rfl)) ?_
 try go_wp2
 obtain ⟨w32, e_⟩ : ∃ x, x = (((((w25.setCell ⟨gb385, 0, none⟩ (.int .i64 a0_0)).setCell ⟨gb385, 1, none⟩ (.int .i64 a0_1)).setCell ⟨gb385, 2, none⟩ (.slice Ao26 y382.length co26)).setCell ⟨gb385, 3, none⟩ (.int .i64 a0_3)).setCell ⟨gb385, 4, none⟩ (.int .i64 a0_4)) := ⟨_, rfl⟩
 have n0_ : Aside0 (Kd.R k132 132 w32 w.heap.size (fun _ => True) (.slice Ao26 y382.length co26) y382) := by rw [e_]; exact ⟨zRf HO384 BK385 (fun _ hk => trivial)⟩
 have n1_ : Aside0 (w32.heap[gb376]? = some (.cells #[.int .i64 a0_0, .int .i64 a0_1, .slice A0_2 l0_2.length c0_2, .int .i64 a0_3, .int .i64 a0_4] 68 (0, 0))) := by rw [e_]; exact ⟨zpf BK376 NB376_385⟩
 have n2_ : Aside0 (w32.heap[gb377]? = some (.cells #[.int .i64 0, .int .i64 0, .slice none 0 0, .int .i64 0, .int .i64 0] 68 (0, 0))) := by rw [e_]; exact ⟨zpf BK377 NB377_385⟩
 have n3_ : Aside0 (w32.heap[gb385]? = some (.cells #[.int .i64 a0_0, .int .i64 a0_1, .slice Ao26 y382.length co26, .int .i64 a0_3, .int .i64 a0_4] 68 (0, 0))) := by rw [e_]; exact ⟨zpb BK385⟩
 have n4_ : Aside0 (Below w.heap.size w w32) := by rw [e_]; exact ⟨zs3 HB GE376 GE377 GE385⟩
 (try clear HO384)
 (try clear BK376)
 (try clear BK377)
 (try clear BK385)
 (try clear HB)
 rw [← e_]; clear e_
 have HO384 := n0_
 have BK376 := n1_
 have BK377 := n2_
 have BK385 := n3_
 have HB := n4_
 clear n0_ n1_ n2_ n3_ n4_
 replace HO384 := zA (Kd.R_drew HO384.out)
 replace BK376 := zA (blk_drew BK376.out)
 replace BK377 := zA (blk_drew BK377.out)
 replace BK385 := zA (blk_drew BK385.out)
 replace HB := zA (below_drew1 HB.out)
 have p10 : 0 ≤ (0 : Int) := (by omega)
 have q10 : (0 : Int) < ((y382.length : Int) : Int) := za
 have qi10 : (0 < y382.length) = True := eq_true (by omega)
 obtain ⟨go10, co10, eo10, gb10, gl10, cl10, HG10⟩ := Kd.R_form HO384.out (by omega)
 (first | cases eo10 | (injection eo10 with ea_ en_ ec_; (first | subst ea_ | (injection ea_ with ea_; subst ea_)); subst ec_; clear en_))
 have GB10 := zA gb10
 have GG10 := zA HG10
 clear gb10 gl10 HG10
 obtain ⟨ce10, hcl10, hM10, hcc10, hfr10⟩ := Kd.R_elem HO384.out z132 (0 : Int) p10 q10
 obtain rfl := k132_openM hM10
 have hx10_0 : World.cell? _ ⟨go10, (0 : Int).toNat * 7, none⟩ = some (.int .i64 ((rd_T132 y382 0).f0)) := hcc10 0 _ rfl
 have hx10_1 : World.cell? _ ⟨go10, (0 : Int).toNat * 7 + 1, none⟩ = some (.int .i64 ((rd_T132 y382 0).f1)) := hcc10 1 _ rfl
 have hx10_2 : World.cell? _ ⟨go10, (0 : Int).toNat * 7 + 2, none⟩ = some (.int .i64 ((rd_T132 y382 0).f2)) := hcc10 2 _ rfl
 have hx10_3 : World.cell? _ ⟨go10, (0 : Int).toNat * 7 + 3, none⟩ = some (.int .i64 ((rd_T132 y382 0).f3)) := hcc10 3 _ rfl
 have hx10_4 : World.cell? _ ⟨go10, (0 : Int).toNat * 7 + 4, none⟩ = some (.int .i64 ((rd_T132 y382 0).f4)) := hcc10 4 _ rfl
 have hx10_5 : World.cell? _ ⟨go10, (0 : Int).toNat * 7 + 5, none⟩ = some (.int .i64 ((rd_T132 y382 0).f5)) := hcc10 5 _ rfl
 have hx10_6 : World.cell? _ ⟨go10, (0 : Int).toNat * 7 + 6, none⟩ = some (.bool ((rd_T132 y382 0).f6)) := hcc10 6 _ rfl
 have hf10_0 : World.frozen? _ ⟨go10, (0 : Int).toNat * 7, none⟩ = false := hfr10 0
 have hf10_1 : World.frozen? _ ⟨go10, (0 : Int).toNat * 7 + 1, none⟩ = false := hfr10 1
 have hf10_2 : World.frozen? _ ⟨go10, (0 : Int).toNat * 7 + 2, none⟩ = false := hfr10 2
 have hf10_3 : World.frozen? _ ⟨go10, (0 : Int).toNat * 7 + 3, none⟩ = false := hfr10 3
 have hf10_4 : World.frozen? _ ⟨go10, (0 : Int).toNat * 7 + 4, none⟩ = false := hfr10 4
 have hf10_5 : World.frozen? _ ⟨go10, (0 : Int).toNat * 7 + 5, none⟩ = false := hfr10 5
 have hf10_6 : World.frozen? _ ⟨go10, (0 : Int).toNat * 7 + 6, none⟩ = false := hfr10 6
 clear hcl10 hcc10 hfr10 hM10
 (try rw [zi0] at hx10_0)
 (try simp only [Nat.zero_mul, Nat.zero_add] at hx10_0)
 (try rw [zi0] at hf10_0)
 (try simp only [Nat.zero_mul, Nat.zero_add] at hf10_0)
 (try rw [zi0] at hx10_1)
 (try simp only [Nat.zero_mul, Nat.zero_add] at hx10_1)
 (try rw [zi0] at hf10_1)
 (try simp only [Nat.zero_mul, Nat.zero_add] at hf10_1)
 (try rw [zi0] at hx10_2)
 (try simp only [Nat.zero_mul, Nat.zero_add] at hx10_2)
 (try rw [zi0] at hf10_2)
 (try simp only [Nat.zero_mul, Nat.zero_add] at hf10_2)
 (try rw [zi0] at hx10_3)
 (try simp only [Nat.zero_mul, Nat.zero_add] at hx10_3)
 (try rw [zi0] at hf10_3)
 (try simp only [Nat.zero_mul, Nat.zero_add] at hf10_3)
 (try rw [zi0] at hx10_4)
 (try simp only [Nat.zero_mul, Nat.zero_add] at hx10_4)
 (try rw [zi0] at hf10_4)
 (try simp only [Nat.zero_mul, Nat.zero_add] at hf10_4)
 (try rw [zi0] at hx10_5)
 (try simp only [Nat.zero_mul, Nat.zero_add] at hx10_5)
 (try rw [zi0] at hf10_5)
 (try simp only [Nat.zero_mul, Nat.zero_add] at hf10_5)
 (try rw [zi0] at hx10_6)
 (try simp only [Nat.zero_mul, Nat.zero_add] at hx10_6)
 (try rw [zi0] at hf10_6)
 (try simp only [Nat.zero_mul, Nat.zero_add] at hf10_6)
 replace p10 := eq_true p10
 replace q10 := eq_true q10
 obtain ⟨ce34, hcl34, hM34, hcc34, hfr34⟩ := Kd.R_elem HO384.out z132 (0 : Int) (by omega) (by have h_ : (0 : Int) < ((y382.length : Int) : Int) := za; first | exact h_ | (have e_ := (Kd.R_reads' HO384.out).1; omega) | simpa using h_)
 obtain rfl := k132_openM hM34
 have HP34 := (Kd.R_seg HO384.out (0 : Int) (by omega) (by have h_ : (0 : Int) < ((y382.length : Int) : Int) := za; first | exact h_ | (have e_ := (Kd.R_reads' HO384.out).1; omega) | simpa using h_) (seg := [.int .i64 a2]) (j := 4) hcl34 hcc34 (show 5 ≤ 7 from by decide) (x' := (⟨(rd_T132 y382 0).f0, (rd_T132 y382 0).f1, (rd_T132 y382 0).f2, (rd_T132 y382 0).f3, a2, (rd_T132 y382 0).f5, (rd_T132 y382 0).f6⟩ : S132)) (k132_mkM _ _ _ (⟨(rd_T132 y382 0).f0, (rd_T132 y382 0).f1, (rd_T132 y382 0).f2, (rd_T132 y382 0).f3, a2, (rd_T132 y382 0).f5, (rd_T132 y382 0).f6⟩ : S132) ) (fun _ hk => hk)).1
 rw [← Ny386.out] at HP34
 have HQ34 := zA HP34
 clear hcl34 hcc34 hfr34 hM34 HP34
 have p11 : 0 ≤ (0 : Int) := (by omega)
 have q11 : (0 : Int) < ((y382.length : Int) : Int) := za
 replace p11 := eq_true p11
 replace q11 := eq_true q11
 obtain ⟨ce35, hcl35, hM35, hcc35, hfr35⟩ := Kd.R_elem HQ34.out z132 (0 : Int) (by omega) (by have h_ : (0 : Int) < ((y382.length : Int) : Int) := za; first | exact h_ | (have e_ := (Kd.R_reads' HO384.out).1; omega) | simpa using h_)
 obtain rfl := k132_openM hM35
 have HP35 := (Kd.R_seg HQ34.out (0 : Int) (by omega) (by have h_ : (0 : Int) < ((y382.length : Int) : Int) := za; first | exact h_ | (have e_ := (Kd.R_reads' HO384.out).1; omega) | simpa using h_) (seg := [.int .i64 a3]) (j := 5) hcl35 hcc35 (show 6 ≤ 7 from by decide) (x' := (⟨(rd_T132 y386 0).f0, (rd_T132 y386 0).f1, (rd_T132 y386 0).f2, (rd_T132 y386 0).f3, (rd_T132 y386 0).f4, a3, (rd_T132 y386 0).f6⟩ : S132)) (k132_mkM _ _ _ (⟨(rd_T132 y386 0).f0, (rd_T132 y386 0).f1, (rd_T132 y386 0).f2, (rd_T132 y386 0).f3, (rd_T132 y386 0).f4, a3, (rd_T132 y386 0).f6⟩ : S132) ) (fun _ hk => hk)).1
 rw [← Ny387.out] at HP35
 have HQ35 := zA HP35
 clear hcl35 hcc35 hfr35 hM35 HP35
 refine start_ (n := 12) (S := fun w' => w'.cell? ⟨gb385, 0, none⟩ = some (.int .i64 a0_0) ∧ w'.cell? ⟨gb385, 1, none⟩ = some (.int .i64 a0_1) ∧ w'.cell? ⟨gb385, 2, none⟩ = some (.slice (some ⟨go10, 0, none⟩) y382.length co26) ∧ w'.cell? ⟨gb385, 3, none⟩ = some (.int .i64 a0_3) ∧ w'.cell? ⟨gb385, 4, none⟩ = some (.int .i64 a0_4)) (ds := [11]) #[F,F,F,F,F,F,F,F,F,F,F,F] (by kernel_rfl) rfl rfl ⟨zc0 BK385, zc1 BK385, zc2 BK385, zc3 BK385, zc4 BK385⟩ (fun hHeld => ?_); refine with_tabW impl_FlyPath_rest.tab2 impl_FlyPath_rest.bits2 (fun HT_ HW_ => ?_)
 generalize w32.drew = w33 at HO384 BK376 BK377 BK385 HB GG10 HQ34 HQ35 hf10_0 hf10_1 hf10_2 hf10_3 hf10_4 hf10_5 hf10_6 hx10_0 hx10_1 hx10_2 hx10_3 hx10_4 hx10_5 hx10_6 hHeld ⊢
 refine zq HT_ 0 ?_
 refine zq HT_ 2 ?_
 refine zq HT_ 4 ?_
 refine zq HT_ 5 ?_
 refine zk5 HT_ HW_ hHeld 1 ?_
 refine zq HT_ 6 ?_
 refine zq HT_ 7 ?_
 refine zk5 HT_ HW_ hHeld 3 ?_
 refine zo HT_ 8 (fun K hK => ?_)
 refine skip_ (w1 := ?_) (by rfl) rfl ?_ ?_
 rotate_left
 ·go_simp
  rfl
 refine hK.out _ _ ⟨((cell_far (p := ⟨go10, _, none⟩) (by have h_ := Kd.R_ne (HO384.out) BK385.out (by decide); exact fun e_ => h_ (congrArg some e_)) _).trans (hHeld.1)), ((cell_far (p := ⟨go10, _, none⟩) (by have h_ := Kd.R_ne (HO384.out) BK385.out (by decide); exact fun e_ => h_ (congrArg some e_)) _).trans (hHeld.2.1)), ((cell_far (p := ⟨go10, _, none⟩) (by have h_ := Kd.R_ne (HO384.out) BK385.out (by decide); exact fun e_ => h_ (congrArg some e_)) _).trans (hHeld.2.2.1)), ((cell_far (p := ⟨go10, _, none⟩) (by have h_ := Kd.R_ne (HO384.out) BK385.out (by decide); exact fun e_ => h_ (congrArg some e_)) _).trans (hHeld.2.2.2.1)), ((cell_far (p := ⟨go10, _, none⟩) (by have h_ := Kd.R_ne (HO384.out) BK385.out (by decide); exact fun e_ => h_ (congrArg some e_)) _).trans (hHeld.2.2.2.2))⟩ (fun hHeld => ?_)
 clear hK K
 refine zq HT_ 9 ?_
 refine zq HT_ 10 ?_
 refine zO HT_ 11 (fun K hK => ?_)
 refine skip_ (w1 := ?_) (by rfl) rfl ?_ ?_
 rotate_left
 ·go_simp
  rfl
 refine hK.out _ _ ?_
 clear hK K
 refine done_ (done_of HT_.out (by kernel_rfl)) ?_
 obtain ⟨w36, e_⟩ : ∃ x, x = ((w33.setCell ⟨go10, 4, none⟩ (.int .i64 a2)).setCell ⟨go10, 5, none⟩ (.int .i64 a3)) := ⟨_, rfl⟩
 have n0_ : Aside0 (Kd.R k132 132 w36 w.heap.size (fun _ => True) (.slice (some ⟨go10, 0, none⟩) y382.length co26) y387) := by rw [e_]; exact ⟨zr HQ35⟩
 have n1_ : Aside0 (w36.heap[gb376]? = some (.cells #[.int .i64 a0_0, .int .i64 a0_1, .slice A0_2 l0_2.length c0_2, .int .i64 a0_3, .int .i64 a0_4] 68 (0, 0))) := by rw [e_]; exact ⟨by (with_reducible repeat (first | refine blk_drewN ?_ _ | refine blk_drew ?_ | refine blk_alloc ?_ _)); refine blk_far ?_ (by have h_ := Kd.R_ne HO384.out BK376.out (by decide); intro e_; exact h_ (by rw [e_]; rfl)) _; (with_reducible repeat (first | refine blk_drewN ?_ _ | refine blk_drew ?_ | refine blk_alloc ?_ _)); refine blk_far ?_ (by have h_ := Kd.R_ne HO384.out BK376.out (by decide); intro e_; exact h_ (by rw [e_]; rfl)) _; (with_reducible repeat (first | refine blk_drewN ?_ _ | refine blk_drew ?_ | refine blk_alloc ?_ _)); exact BK376.out⟩
 have n2_ : Aside0 (w36.heap[gb377]? = some (.cells #[.int .i64 0, .int .i64 0, .slice none 0 0, .int .i64 0, .int .i64 0] 68 (0, 0))) := by rw [e_]; exact ⟨by (with_reducible repeat (first | refine blk_drewN ?_ _ | refine blk_drew ?_ | refine blk_alloc ?_ _)); refine blk_far ?_ (by have h_ := Kd.R_ne HO384.out BK377.out (by decide); intro e_; exact h_ (by rw [e_]; rfl)) _; (with_reducible repeat (first | refine blk_drewN ?_ _ | refine blk_drew ?_ | refine blk_alloc ?_ _)); refine blk_far ?_ (by have h_ := Kd.R_ne HO384.out BK377.out (by decide); intro e_; exact h_ (by rw [e_]; rfl)) _; (with_reducible repeat (first | refine blk_drewN ?_ _ | refine blk_drew ?_ | refine blk_alloc ?_ _)); exact BK377.out⟩
 have n3_ : Aside0 (w36.heap[gb385]? = some (.cells #[.int .i64 a0_0, .int .i64 a0_1, .slice (some ⟨go10, 0, none⟩) y382.length co26, .int .i64 a0_3, .int .i64 a0_4] 68 (0, 0))) := by rw [e_]; exact ⟨by (with_reducible repeat (first | refine blk_drewN ?_ _ | refine blk_drew ?_ | refine blk_alloc ?_ _)); refine blk_far ?_ (by have h_ := Kd.R_ne HO384.out BK385.out (by decide); intro e_; exact h_ (by rw [e_]; rfl)) _; (with_reducible repeat (first | refine blk_drewN ?_ _ | refine blk_drew ?_ | refine blk_alloc ?_ _)); refine blk_far ?_ (by have h_ := Kd.R_ne HO384.out BK385.out (by decide); intro e_; exact h_ (by rw [e_]; rfl)) _; (with_reducible repeat (first | refine blk_drewN ?_ _ | refine blk_drew ?_ | refine blk_alloc ?_ _)); exact BK385.out⟩
 have n4_ : Aside0 (Below w.heap.size w w36) := by rw [e_]; exact ⟨by repeat (first | (with_reducible first | exact HB.out | apply below_alloc | apply pw_below_drewN | apply below_drew1 | refine below_set ?_ GB10.out | refine below_set ?_ GB10.out | refine below_set ?_ GE376.out | refine below_set ?_ GE377.out | refine below_set ?_ GE385.out) | exact HB.out)⟩
 (try clear HO384)
 (try clear BK376)
 (try clear BK377)
 (try clear BK385)
 (try clear HB)
 rw [← e_]; clear e_
 have HO384 := n0_
 have BK376 := n1_
 have BK377 := n2_
 have BK385 := n3_
 have HB := n4_
 clear n0_ n1_ n2_ n3_ n4_
 have hnb37 := NB385_376.out
 have hnc37 := NB376_385.out
 have hnb38 := NB385_377.out
 have hnc38 := NB377_385.out
 obtain ⟨hcz39_0, hcz39_1, hcz39_2, hcz39_3, hcz39_4⟩ := zd5 BK385
 obtain ⟨hfz39_0, hfz39_1, hfz39_2, hfz39_3, hfz39_4⟩ := zn5 BK385
 try go_wp2
 replace HO384 := zA (Kd.R_drew HO384.out)
 replace BK376 := zA (blk_drew BK376.out)
 replace BK377 := zA (blk_drew BK377.out)
 replace BK385 := zA (blk_drew BK385.out)
 replace HB := zA (below_drew1 HB.out)
 have p388 : 0 ≤ (1 : Int) := (by omega)
 have q388 : 1 < (y387.length : Int) := (by have h_ : (1 : Int) < ((y382.length : Int) : Int) := za; first | (have e_ := (Kd.R_reads' HO384.out).1; omega) | simpa only [Ny386.out, Ny387.out, List.length_set] using h_)
 have ql388 : ((1 : Int) < ((y382.length : Int) : Int)) = True := eq_true (za)
 (try have qn388 : (1 < y382.length) = True := eq_true (by have h_ : (1 : Int) < ((y382.length : Int) : Int) := za; omega))
 obtain ⟨ad388, e388, hx388_0, hx388_1, hx388_2, hx388_3, hx388_4, hx388_5, hx388_6⟩ := at_T132 (Kd.R_reads' HO384.out).2.2 1 p388 q388
 obtain rfl : (⟨go10, 0, none⟩ : Addr) = ad388 := (by injection e388)
 (first | simp only [add_plain] at hx388_0 | simp only [add_at] at hx388_0 | simp only [Addr.add, Nat.zero_add] at hx388_0 | skip)
 (first | simp only [add_plain] at hx388_1 | simp only [add_at] at hx388_1 | simp only [Addr.add, Nat.zero_add] at hx388_1 | skip)
 (first | simp only [add_plain] at hx388_2 | simp only [add_at] at hx388_2 | simp only [Addr.add, Nat.zero_add] at hx388_2 | skip)
 (first | simp only [add_plain] at hx388_3 | simp only [add_at] at hx388_3 | simp only [Addr.add, Nat.zero_add] at hx388_3 | skip)
 (first | simp only [add_plain] at hx388_4 | simp only [add_at] at hx388_4 | simp only [Addr.add, Nat.zero_add] at hx388_4 | skip)
 (first | simp only [add_plain] at hx388_5 | simp only [add_at] at hx388_5 | simp only [Addr.add, Nat.zero_add] at hx388_5 | skip)
 (first | simp only [add_plain] at hx388_6 | simp only [add_at] at hx388_6 | simp only [Addr.add, Nat.zero_add] at hx388_6 | skip)
 have qi388 : (1 < y387.length) = True := eq_true (by omega)
 (try rw [zi1] at hx388_0)
 (try rw [show 1 * 7 = 7 from rfl] at hx388_0)
 (try rw [zi1] at hx388_1)
 (try rw [show 1 * 7 = 7 from rfl] at hx388_1)
 (try rw [zi1] at hx388_2)
 (try rw [show 1 * 7 = 7 from rfl] at hx388_2)
 (try rw [zi1] at hx388_3)
 (try rw [show 1 * 7 = 7 from rfl] at hx388_3)
 (try rw [zi1] at hx388_4)
 (try rw [show 1 * 7 = 7 from rfl] at hx388_4)
 (try rw [zi1] at hx388_5)
 (try rw [show 1 * 7 = 7 from rfl] at hx388_5)
 (try rw [zi1] at hx388_6)
 (try rw [show 1 * 7 = 7 from rfl] at hx388_6)
 replace p388 := eq_true p388
 replace q388 := eq_true q388
 have p15 : 0 ≤ (1 : Int) := (by omega)
 have q15 : (1 : Int) < ((y382.length : Int) : Int) := za
 have qi15 : (1 < y382.length) = True := eq_true (by omega)
 obtain ⟨ce15, hcl15, hM15, hcc15, hfr15⟩ := Kd.R_elem HO384.out z132 (1 : Int) p15 q15
 obtain rfl := k132_openM hM15
 have hx15_0 : World.cell? _ ⟨go10, (1 : Int).toNat * 7, none⟩ = some (.int .i64 ((rd_T132 y387 1).f0)) := hcc15 0 _ rfl
 have hx15_1 : World.cell? _ ⟨go10, (1 : Int).toNat * 7 + 1, none⟩ = some (.int .i64 ((rd_T132 y387 1).f1)) := hcc15 1 _ rfl
 have hx15_2 : World.cell? _ ⟨go10, (1 : Int).toNat * 7 + 2, none⟩ = some (.int .i64 ((rd_T132 y387 1).f2)) := hcc15 2 _ rfl
 have hx15_3 : World.cell? _ ⟨go10, (1 : Int).toNat * 7 + 3, none⟩ = some (.int .i64 ((rd_T132 y387 1).f3)) := hcc15 3 _ rfl
 have hx15_4 : World.cell? _ ⟨go10, (1 : Int).toNat * 7 + 4, none⟩ = some (.int .i64 ((rd_T132 y387 1).f4)) := hcc15 4 _ rfl
 have hx15_5 : World.cell? _ ⟨go10, (1 : Int).toNat * 7 + 5, none⟩ = some (.int .i64 ((rd_T132 y387 1).f5)) := hcc15 5 _ rfl
 have hx15_6 : World.cell? _ ⟨go10, (1 : Int).toNat * 7 + 6, none⟩ = some (.bool ((rd_T132 y387 1).f6)) := hcc15 6 _ rfl
 have hf15_0 : World.frozen? _ ⟨go10, (1 : Int).toNat * 7, none⟩ = false := hfr15 0
 have hf15_1 : World.frozen? _ ⟨go10, (1 : Int).toNat * 7 + 1, none⟩ = false := hfr15 1
 have hf15_2 : World.frozen? _ ⟨go10, (1 : Int).toNat * 7 + 2, none⟩ = false := hfr15 2
 have hf15_3 : World.frozen? _ ⟨go10, (1 : Int).toNat * 7 + 3, none⟩ = false := hfr15 3
 have hf15_4 : World.frozen? _ ⟨go10, (1 : Int).toNat * 7 + 4, none⟩ = false := hfr15 4
 have hf15_5 : World.frozen? _ ⟨go10, (1 : Int).toNat * 7 + 5, none⟩ = false := hfr15 5
 have hf15_6 : World.frozen? _ ⟨go10, (1 : Int).toNat * 7 + 6, none⟩ = false := hfr15 6
 clear hcl15 hcc15 hfr15 hM15
 (try rw [zi1] at hx15_0)
 (try simp only [Nat.zero_mul, Nat.zero_add] at hx15_0)
 (try rw [zi1] at hf15_0)
 (try simp only [Nat.zero_mul, Nat.zero_add] at hf15_0)
 (try rw [zi1] at hx15_1)
 (try simp only [Nat.zero_mul, Nat.zero_add] at hx15_1)
 (try rw [zi1] at hf15_1)
 (try simp only [Nat.zero_mul, Nat.zero_add] at hf15_1)
 (try rw [zi1] at hx15_2)
 (try simp only [Nat.zero_mul, Nat.zero_add] at hx15_2)
 (try rw [zi1] at hf15_2)
 (try simp only [Nat.zero_mul, Nat.zero_add] at hf15_2)
 (try rw [zi1] at hx15_3)
 (try simp only [Nat.zero_mul, Nat.zero_add] at hx15_3)
 (try rw [zi1] at hf15_3)
 (try simp only [Nat.zero_mul, Nat.zero_add] at hf15_3)
 (try rw [zi1] at hx15_4)
 (try simp only [Nat.zero_mul, Nat.zero_add] at hx15_4)
 (try rw [zi1] at hf15_4)
 (try simp only [Nat.zero_mul, Nat.zero_add] at hf15_4)
 (try rw [zi1] at hx15_5)
 (try simp only [Nat.zero_mul, Nat.zero_add] at hx15_5)
 (try rw [zi1] at hf15_5)
 (try simp only [Nat.zero_mul, Nat.zero_add] at hf15_5)
 (try rw [zi1] at hx15_6)
 (try simp only [Nat.zero_mul, Nat.zero_add] at hx15_6)
 (try rw [zi1] at hf15_6)
 (try simp only [Nat.zero_mul, Nat.zero_add] at hf15_6)
 replace p15 := eq_true p15
 replace q15 := eq_true q15
 obtain ⟨ce41, hcl41, hM41, hcc41, hfr41⟩ := Kd.R_elem HO384.out z132 (1 : Int) (by omega) (by have h_ : (1 : Int) < ((y382.length : Int) : Int) := za; first | exact h_ | (have e_ := (Kd.R_reads' HO384.out).1; omega) | simpa using h_)
 obtain rfl := k132_openM hM41
 have HP41 := (Kd.R_seg HO384.out (1 : Int) (by omega) (by have h_ : (1 : Int) < ((y382.length : Int) : Int) := za; first | exact h_ | (have e_ := (Kd.R_reads' HO384.out).1; omega) | simpa using h_) (seg := [.int .i64 ji14]) (j := 4) hcl41 hcc41 (show 5 ≤ 7 from by decide) (x' := (⟨(rd_T132 y387 1).f0, (rd_T132 y387 1).f1, (rd_T132 y387 1).f2, (rd_T132 y387 1).f3, ji14, (rd_T132 y387 1).f5, (rd_T132 y387 1).f6⟩ : S132)) (k132_mkM _ _ _ (⟨(rd_T132 y387 1).f0, (rd_T132 y387 1).f1, (rd_T132 y387 1).f2, (rd_T132 y387 1).f3, ji14, (rd_T132 y387 1).f5, (rd_T132 y387 1).f6⟩ : S132) ) (fun _ hk => hk)).1
 rw [← Ny389.out] at HP41
 have HQ41 := zA HP41
 clear hcl41 hcc41 hfr41 hM41 HP41
 refine start_ (n := 13) (S := fun w' => w'.cell? ⟨gb385, 0, none⟩ = some (.int .i64 a0_0) ∧ w'.cell? ⟨gb385, 1, none⟩ = some (.int .i64 a0_1) ∧ w'.cell? ⟨gb385, 2, none⟩ = some (.slice (some ⟨go10, 0, none⟩) y382.length co26) ∧ w'.cell? ⟨gb385, 3, none⟩ = some (.int .i64 a0_3) ∧ w'.cell? ⟨gb385, 4, none⟩ = some (.int .i64 a0_4) ∧ w'.cell? ⟨go10, 7, none⟩ = some (.int .i64 ((rd_T132 y387 1).f0)) ∧ w'.cell? ⟨go10, 8, none⟩ = some (.int .i64 ((rd_T132 y387 1).f1)) ∧ w'.cell? ⟨go10, 9, none⟩ = some (.int .i64 ((rd_T132 y387 1).f2)) ∧ w'.cell? ⟨go10, 10, none⟩ = some (.int .i64 ((rd_T132 y387 1).f3)) ∧ w'.cell? ⟨go10, 11, none⟩ = some (.int .i64 ((rd_T132 y387 1).f4)) ∧ w'.cell? ⟨go10, 12, none⟩ = some (.int .i64 ((rd_T132 y387 1).f5)) ∧ w'.cell? ⟨go10, 13, none⟩ = some (.bool ((rd_T132 y387 1).f6))) (ds := [12]) #[F,F,F,F,F,F,F,F,F,F,F,F,F] (by kernel_rfl) rfl rfl ⟨zc0 BK385, zc1 BK385, zc2 BK385, zc3 BK385, zc4 BK385, hx388_0, hx388_1, hx388_2, hx388_3, hx388_4, hx388_5, hx388_6⟩ (fun hHeld => ?_); refine with_tabW impl_FlyPath_rest.tab4 impl_FlyPath_rest.bits4 (fun HT_ HW_ => ?_)
 generalize w36.drew = w40 at HO384 BK376 BK377 BK385 HB HQ41 hf15_0 hf15_1 hf15_2 hf15_3 hf15_4 hf15_5 hf15_6 hx15_0 hx15_1 hx15_2 hx15_3 hx15_4 hx15_5 hx15_6 hx388_0 hx388_1 hx388_2 hx388_3 hx388_4 hx388_5 hx388_6 hHeld ⊢
 refine zq HT_ 0 ?_
 refine zq HT_ 2 ?_
 refine zq HT_ 7 ?_
 refine zq HT_ 8 ?_
 refine zk12 HT_ HW_ hHeld 1 ?_
 refine zk12 HT_ HW_ hHeld 3 ?_
 refine zq HT_ 4 ?_
 refine zq HT_ 5 ?_
 refine zk12 HT_ HW_ hHeld 6 ?_
 refine zq HT_ 9 ?_
 refine zq HT_ 10 ?_
 refine zq HT_ 11 ?_
 refine zO HT_ 12 (fun K hK => ?_)
 refine skip_ (w1 := ?_) (by rfl) rfl ?_ ?_
 rotate_left
 ·go_simp
  rfl
 refine hK.out _ _ ?_
 clear hK K
 refine done_ (done_of HT_.out (by kernel_rfl)) ?_
 have n0_ : Aside0 (Kd.R k132 132 (w40.setCell ⟨go10, 11, none⟩ (.int .i64 ji14)) w.heap.size (fun _ => True) (.slice (some ⟨go10, 0, none⟩) y382.length co26) y389) := ⟨zr HQ41⟩
 have n1_ : Aside0 ((w40.setCell ⟨go10, 11, none⟩ (.int .i64 ji14)).heap[gb376]? = some (.cells #[.int .i64 a0_0, .int .i64 a0_1, .slice A0_2 l0_2.length c0_2, .int .i64 a0_3, .int .i64 a0_4] 68 (0, 0))) := ⟨by (with_reducible repeat (first | refine blk_drewN ?_ _ | refine blk_drew ?_ | refine blk_alloc ?_ _)); refine blk_far ?_ (by have h_ := Kd.R_ne HO384.out BK376.out (by decide); intro e_; exact h_ (by rw [e_]; rfl)) _; (with_reducible repeat (first | refine blk_drewN ?_ _ | refine blk_drew ?_ | refine blk_alloc ?_ _)); exact BK376.out⟩
 have n2_ : Aside0 ((w40.setCell ⟨go10, 11, none⟩ (.int .i64 ji14)).heap[gb377]? = some (.cells #[.int .i64 0, .int .i64 0, .slice none 0 0, .int .i64 0, .int .i64 0] 68 (0, 0))) := ⟨by (with_reducible repeat (first | refine blk_drewN ?_ _ | refine blk_drew ?_ | refine blk_alloc ?_ _)); refine blk_far ?_ (by have h_ := Kd.R_ne HO384.out BK377.out (by decide); intro e_; exact h_ (by rw [e_]; rfl)) _; (with_reducible repeat (first | refine blk_drewN ?_ _ | refine blk_drew ?_ | refine blk_alloc ?_ _)); exact BK377.out⟩
 have n3_ : Aside0 ((w40.setCell ⟨go10, 11, none⟩ (.int .i64 ji14)).heap[gb385]? = some (.cells #[.int .i64 a0_0, .int .i64 a0_1, .slice (some ⟨go10, 0, none⟩) y382.length co26, .int .i64 a0_3, .int .i64 a0_4] 68 (0, 0))) := ⟨by (with_reducible repeat (first | refine blk_drewN ?_ _ | refine blk_drew ?_ | refine blk_alloc ?_ _)); refine blk_far ?_ (by have h_ := Kd.R_ne HO384.out BK385.out (by decide); intro e_; exact h_ (by rw [e_]; rfl)) _; (with_reducible repeat (first | refine blk_drewN ?_ _ | refine blk_drew ?_ | refine blk_alloc ?_ _)); exact BK385.out⟩
 have n4_ : Aside0 (Below w.heap.size w (w40.setCell ⟨go10, 11, none⟩ (.int .i64 ji14))) := ⟨by repeat (first | (with_reducible first | exact HB.out | apply below_alloc | apply pw_below_drewN | apply below_drew1 | refine below_set ?_ GB10.out | refine below_set ?_ GE376.out | refine below_set ?_ GE377.out | refine below_set ?_ GE385.out) | exact HB.out)⟩
 (try clear HO384)
 (try clear BK376)
 (try clear BK377)
 (try clear BK385)
 (try clear HB)
 generalize (w40.setCell ⟨go10, 11, none⟩ (.int .i64 ji14)) = w42 at n0_ n1_ n2_ n3_ n4_ ⊢
 have HO384 := n0_
 have BK376 := n1_
 have BK377 := n2_
 have BK385 := n3_
 have HB := n4_
 clear n0_ n1_ n2_ n3_ n4_
 obtain ⟨hcz43_0, hcz43_1, hcz43_2, hcz43_3, hcz43_4⟩ := zd5 BK385
 obtain ⟨hfz43_0, hfz43_1, hfz43_2, hfz43_3, hfz43_4⟩ := zn5 BK385
 try go_wp2_with (first | ((with_reducible refine gate_callee (f := 74) rfl ?_); refine goesL_ (some 61) rfl rfl Try.func74 (by kernel_rfl) rfl #[.agg #[.int .i64 a0_0, .int .i64 a0_1, .slice (some ⟨go10, 0, none⟩) y389.length co26, .int .i64 a0_3, .int .i64 a0_4]] rfl (by (try simp only [List.map_toArray, List.map_cons, List.map_nil]); first | done | (rw [show y389.length = y382.length from (Kd.R_reads' HO384.out).1.symm] <;> rfl) | rfl | (simp only [List.length_drop, List.length_take]; rfl)) ?_; (with_reducible refine (impl_FlySpans.calls k a0_0 a0_1 _ _ y389 a0_3 a0_4 t390 true _ ?side1 ?side2 A16.out).mono ?_); (case side1 => repeat (first | exact (Kd.R_reads' HO384.out).2.2 | (with_reducible refine Kd.C_alloc ?_ _) | (with_reducible refine Kd.C_drewN ?_ _) | (with_reducible refine Kd.C_drew ?_))); (case side2 => rw [show y389.length = y382.length from (Kd.R_reads' HO384.out).1.symm]; exact (Kd.R_reads' HO384.out).2.1); rintro e w44 ⟨v391, rfl, ho0, hb⟩; refine ⟨_, rfl, ?_⟩; have HO392 := zA (Kd.R_lower ho0 (below_size (zs3 HB GE376 GE377 GE385))); replace HO384 := zA (Kd.R_below (zr HO384) hb); replace BK376 := zb BK376 hb; replace BK377 := zb BK377 hb; replace BK385 := zb BK385 hb; replace HB := zE (zs3 HB GE376 GE377 GE385) hb; (try clear hb); (try clear hb2); (try clear hk); (try clear hi); (try clear ho0); obtain ⟨hcz45_0, hcz45_1, hcz45_2, hcz45_3, hcz45_4⟩ := zd5 BK385; obtain ⟨hfz45_0, hfz45_1, hfz45_2, hfz45_3, hfz45_4⟩ := zn5 BK385; have hnb46 := NB377_376.out; have hnc46 := NB376_377.out; obtain ⟨hcz47_0, hcz47_1, hcz47_2, hcz47_3, hcz47_4⟩ := zd5 BK377; obtain ⟨hfz47_0, hfz47_1, hfz47_2, hfz47_3, hfz47_4⟩ := zn5 BK377))
 refine bodyPost_ret (results_ct rfl _ _ gb377 68 #[.int .i64 a0_0, .int .i64 a0_1, .slice (some ⟨go10, 0, none⟩) y382.length co26, .int .i64 a0_3, .int .i64 a0_4] (0, 0) _ rfl ?hz Try.underlying68 rfl (by kernel_rfl)) rfl ?_; (case hz => exact zpb BK377)
 exact ⟨_, by first | rfl | (simp [errW_none, errW_some] <;> rfl) | (simp only [← hji14]; first | rfl | (simp [errW_none, errW_some] <;> rfl)) | (simp [*, errW_none, errW_some] <;> rfl), by (with_reducible repeat (first | apply Kd.R_alloc | apply Kd.R_drewN | apply Kd.R_drew)); exact Kd.R_mono (Kd.R_far (p := ⟨gb377, 4, none⟩) (Kd.R_far (p := ⟨gb377, 3, none⟩) (Kd.R_far (p := ⟨gb377, 2, none⟩) (Kd.R_far (p := ⟨gb377, 1, none⟩) (Kd.R_far (p := ⟨gb377, 0, none⟩) (Kd.R_types HO384.out BK377.out (by decide)) (fun _ hk => hk.2) (.int .i64 a0_0)) (fun _ hk => hk.2) (.int .i64 a0_1)) (fun _ hk => hk.2) (.slice (some ⟨go10, 0, none⟩) y382.length co26)) (fun _ hk => hk.2) (.int .i64 a0_3)) (fun _ hk => hk.2) (.int .i64 a0_4)) (fun _ hk => trivial), zs3 HB GE376 GE377 GE385⟩
end Go.Proofs.Ytbmplfpnhjhoiaa.QFnExactFlyRest
