/- The walk of what the law FnExactPlanForm reaches: laid by a program of this session (ownprint.py). -/
import Derived.Test.YtkphmngnanccbaaDoorQFnExactPlanFormx0
import Derived.Test.YtkphmngnanccbaaDoorQFnExactPlanFormx1
import Derived.Test.YtkphmngnanccbaaDoorQFnExactPlanFormx2
namespace Go.Proofs.YtkphmngnanccbaaDoor.QFnExactPlanForm
open Go.RowKit Go.Proofs.YtkphmngnanccbaaDoorW.PrintWords Go.Proofs.YtkphmngnanccbaaDoorW.PrintLast Go.Proofs.YtkphmngnanccbaaDoorW.PrintMore Go.Proofs.YtkphmngnanccbaaDoor.Z
attribute [local go_sem] max2_int min2_int max_two min_two max_three min_three max_four min_four zdn   -- for this text's walks alone
set_option linter.unusedVariables false
set_option linter.unusedSimpArgs false
def spec_PlanForm.j0 : Nat → Bool → ByteArray → Int → Int → ByteArray → Option (ByteArray)
 | 0, _, _, _, _, _ => none
 | k + 1, x28, x114000, x114001, x114002, x114003 => if x28 = true then (some (⟨#[]⟩ : ByteArray)) else (if 4 + x114000.size ≤ 9223372036854775807 then (if ((⟨#[115, 101, 116, 32]⟩ : ByteArray) ++ x114000).size + 1 ≤ 9223372036854775807 then ((spec_l12Words.f).bind fun t118 => (if 0 ≤ (wrap64 (x114001 - 1)) then (if (wrap64 (x114001 - 1)) < (t118.length : Int) then (if (((⟨#[115, 101, 116, 32]⟩ : ByteArray) ++ x114000) ++ (⟨#[32]⟩ : ByteArray)).size + (rdOf ByteArray.empty t118 (wrap64 (x114001 - 1))).size ≤ 9223372036854775807 then (if ((((⟨#[115, 101, 116, 32]⟩ : ByteArray) ++ x114000) ++ (⟨#[32]⟩ : ByteArray)) ++ (rdOf ByteArray.empty t118 (wrap64 (x114001 - 1)))).size + 1 ≤ 9223372036854775807 then ((spec_l12Dec.f k x114002).bind fun t122 => (if (((((⟨#[115, 101, 116, 32]⟩ : ByteArray) ++ x114000) ++ (⟨#[32]⟩ : ByteArray)) ++ (rdOf ByteArray.empty t118 (wrap64 (x114001 - 1)))) ++ (⟨#[32]⟩ : ByteArray)).size + t122.size ≤ 9223372036854775807 then (if ((((((⟨#[115, 101, 116, 32]⟩ : ByteArray) ++ x114000) ++ (⟨#[32]⟩ : ByteArray)) ++ (rdOf ByteArray.empty t118 (wrap64 (x114001 - 1)))) ++ (⟨#[32]⟩ : ByteArray)) ++ t122).size + 1 ≤ 9223372036854775807 then (if (((((((⟨#[115, 101, 116, 32]⟩ : ByteArray) ++ x114000) ++ (⟨#[32]⟩ : ByteArray)) ++ (rdOf ByteArray.empty t118 (wrap64 (x114001 - 1)))) ++ (⟨#[32]⟩ : ByteArray)) ++ t122) ++ (⟨#[32]⟩ : ByteArray)).size + x114003.size ≤ 9223372036854775807 then (some ((((((((⟨#[115, 101, 116, 32]⟩ : ByteArray) ++ x114000) ++ (⟨#[32]⟩ : ByteArray)) ++ (rdOf ByteArray.empty t118 (wrap64 (x114001 - 1)))) ++ (⟨#[32]⟩ : ByteArray)) ++ t122) ++ (⟨#[32]⟩ : ByteArray)) ++ x114003)) else (none)) else (none)) else (none))) else (none)) else (none)) else (none)) else (none))) else (none)) else (none))
def spec_PlanForm.f (k : Nat) (a0_0 : ByteArray) (a0_1 : Int) (a0_2 : Int) (a0_3 : ByteArray) : Option (ByteArray) := (spec_l11NameOk.f k a0_0).bind fun t114 => (if t114 = true then ((spec_l11In.f a0_2 1 1000000).bind fun t115 => (if t115 = true then ((spec_l11In.f a0_1 1 5).bind fun t116 => (if t116 = true then (if a0_3.toList = ([] : List UInt8) then (spec_PlanForm.j0 k true a0_0 a0_1 a0_2 a0_3) else ((spec_l12Odd.f k a0_3).bind fun t117 => (spec_PlanForm.j0 k t117 a0_0 a0_1 a0_2 a0_3))) else (spec_PlanForm.j0 k true a0_0 a0_1 a0_2 a0_3))) else (spec_PlanForm.j0 k true a0_0 a0_1 a0_2 a0_3))) else (spec_PlanForm.j0 k true a0_0 a0_1 a0_2 a0_3))
def spec_PlanForm.T3 : Bool × List (List Nat × List Nat) := (true, [([], []), ([0], [0]), ([1], [1]), ([2], [2]), ([], []), ([], []), ([5], [5]), ([6], [6]), ([4, 7], [4, 7]), ([8], [8]), ([3, 9], [3, 9]), ([10], [10]), ([], []), ([12], [12]), ([13, 4], [13]), ([11, 14], [11, 14]), ([15], [15]), ([], []), ([17], [17]), ([16, 18], [16, 18]), ([19, 14, 0, 1, 2, 3, 4, 5, 6, 7, 8, 9, 10, 11, 12, 13, 14, 15, 16, 17, 18, 19], [19])])
def spec_PlanForm.B3 : List Nat := [0, 1, 3, 7, 0, 0, 32, 96, 240, 496, 1023, 2047, 0, 4096, 12304, 32767, 65535, 0, 131072, 524287, 1048575]
theorem spec_PlanForm.tab3 : rtab .any (opsOf Tryd.f5 3) = spec_PlanForm.T3 := by kernel_rfl
theorem spec_PlanForm.bits3 : waitsOk spec_PlanForm.T3.2 spec_PlanForm.B3 = true := by kernel_rfl
theorem wp_less {P : Program} {md : Region.Mode} {ops : Array Oper} {Q : Exit → Act → World → Prop} {S1 S2 : World → Prop} (h12 : ∀ w, S2 w → S1 w) : ∀ (fuel : Nat) (l : Array Bool) (a : Act) (w : World), S2 w → wpAnyLast P md ops Q S2 [] fuel l a w → wpAnyLast P md ops Q S1 [] fuel l a w
 | 0, _, _, _, _, h => h
 | fuel + 1, _, _, _, hS, h => ⟨h.1, fun i hi => wpOp_mono (fun a' w' h' => ⟨fun _ _ => h12 _ (h'.1 (by simp) hS), wp_less h12 fuel _ a' w' (h'.1 (by simp) hS) h'.2⟩) (h.2 i hi)⟩
set_option maxHeartbeats 8000000 in
set_option maxRecDepth 100000 in
theorem spec_PlanForm.calls (k : Nat) (a0_0 : ByteArray) (a0_1 : Int) (a0_2 : Int) (a0_3 : ByteArray) (r : ByteArray) (w : World) (h : spec_PlanForm.f k a0_0 a0_1 a0_2 a0_3 = some r) :
 Calls Tryd.prog 5 #[.agg #[.string a0_0, .int .i64 a0_1, .int .i64 a0_2, .string a0_3]] w fun e w' => e = .returned (.string r) ∧ Below w.heap.size w w' := by
 have hu26 := Tryd.underlying26
 have HB := Aside0.mk (Below.refl w.heap.size w)
 have H : ((spec_l11NameOk.f k a0_0).bind fun t114 => (if t114 = true then ((spec_l11In.f a0_2 1 1000000).bind fun t115 => (if t115 = true then ((spec_l11In.f a0_1 1 5).bind fun t116 => (if t116 = true then (if a0_3.toList = ([] : List UInt8) then (spec_PlanForm.j0 k true a0_0 a0_1 a0_2 a0_3) else ((spec_l12Odd.f k a0_3).bind fun t117 => (spec_PlanForm.j0 k t117 a0_0 a0_1 a0_2 a0_3))) else (spec_PlanForm.j0 k true a0_0 a0_1 a0_2 a0_3))) else (spec_PlanForm.j0 k true a0_0 a0_1 a0_2 a0_3))) else (spec_PlanForm.j0 k true a0_0 a0_1 a0_2 a0_3))) = some r := h
 clear h
 have HC2 := Aside0.mk H
 clear H
 go_enter Tryd.func5, Tryd.ntmps5
 go_upto_region 1 with (first | ((with_reducible refine gate_dst (N := 1) rfl ?_); refine zbx 1 #[.string a0_0, .int .i64 a0_1, .int .i64 a0_2, .string a0_3] 26 ?_; intro gb113 hg w3 hbox hb; have BK113 := zA hbox; have GW113 := zgs hg (zs0 HB); have GE113 := zgs hg (zs0 HB); replace HB := zE (zs0 HB) hb; clear hb hbox hg))
 (try simp only [Act.put, List.setIfInBounds_toArray, List.set_cons_zero, List.set_cons_succ])
 go_cut [28] (fun v28 wc => ∃ (kq : Nat) (x28_1 : Bool), v28 = .bool x28_1 ∧ Aside0 (spec_PlanForm.j0 kq x28_1 a0_0 a0_1 a0_2 a0_3 = some r) ∧ Aside0 (kq ≤ k) ∧ Aside0 (wc.heap[gb113]? = some (.cells #[.string a0_0, .int .i64 a0_1, .int .i64 a0_2, .string a0_3] 26 (0, 0))) ∧ Aside0 (Below w.heap.size w wc))
 case first =>
  have H := HC2.out
  clear HC2
  replace H := zbd H; obtain ⟨t114, A4, H⟩ := H
  by_cases c5 : t114 = true
  rotate_left
  ·replace c5 := Bool.eq_false_iff.mpr c5
   subst c5
   have H1 : (spec_PlanForm.j0 k true a0_0 a0_1 a0_2 a0_3) = some r := by rw [if_neg (show ¬ (false = true) by decide)] at H; exact H
   clear H
   have H := H1
   clear H1
   have H' := Aside0.mk H
   clear H
   obtain ⟨hcz16_0, hcz16_1, hcz16_2, hcz16_3⟩ := zd4 BK113
   obtain ⟨hfz16_0, hfz16_1, hfz16_2, hfz16_3⟩ := zn4 BK113
   go_wp2_with (first | ((with_reducible refine gate_callee (f := 8) rfl ?_); refine goesL_ (some 5) rfl rfl Tryd.func8 (by kernel_rfl) rfl #[.string a0_0] rfl zl ?_; (with_reducible refine (spec_l11NameOk.calls k a0_0 false _ A4.out).mono ?_); rintro e w' ⟨rfl, ⟨nd, rfl⟩⟩; refine ⟨_, rfl, ?_⟩))
   go_meet
   case rel => exact ⟨_, (true), zi, H', ⟨by first | omega | exact Nat.le_refl _⟩, ⟨zh BK113⟩, ⟨zs1 HB GE113⟩⟩
  subst c5
  have H1 : ((spec_l11In.f a0_2 1 1000000).bind fun t115 => (if t115 = true then ((spec_l11In.f a0_1 1 5).bind fun t116 => (if t116 = true then (if a0_3.toList = ([] : List UInt8) then (spec_PlanForm.j0 k true a0_0 a0_1 a0_2 a0_3) else ((spec_l12Odd.f k a0_3).bind fun t117 => (spec_PlanForm.j0 k t117 a0_0 a0_1 a0_2 a0_3))) else (spec_PlanForm.j0 k true a0_0 a0_1 a0_2 a0_3))) else (spec_PlanForm.j0 k true a0_0 a0_1 a0_2 a0_3))) = some r := by rw [if_pos rfl] at H; exact H
  clear H
  have H := H1
  clear H1
  replace H := zbd H; obtain ⟨t115, A6, H⟩ := H
  by_cases c7 : t115 = true
  rotate_left
  ·replace c7 := Bool.eq_false_iff.mpr c7
   subst c7
   have H1 : (spec_PlanForm.j0 k true a0_0 a0_1 a0_2 a0_3) = some r := by rw [if_neg (show ¬ (false = true) by decide)] at H; exact H
   clear H
   have H := H1
   clear H1
   have H' := Aside0.mk H
   clear H
   obtain ⟨hcz15_0, hcz15_1, hcz15_2, hcz15_3⟩ := zd4 BK113
   obtain ⟨hfz15_0, hfz15_1, hfz15_2, hfz15_3⟩ := zn4 BK113
   go_wp2_with (first | ((with_reducible refine gate_callee (f := 8) rfl ?_); refine goesL_ (some 5) rfl rfl Tryd.func8 (by kernel_rfl) rfl #[.string a0_0] rfl zl ?_; (with_reducible refine (spec_l11NameOk.calls k a0_0 true _ A4.out).mono ?_); rintro e w' ⟨rfl, ⟨nd, rfl⟩⟩; refine ⟨_, rfl, ?_⟩) | (go_at_call 9; (with_reducible refine (spec_l11In.calls a0_2 1 1000000 false _ A6.out).mono ?_); rintro e w' ⟨rfl, ⟨nd, rfl⟩⟩))
   go_meet
   case rel => exact ⟨_, (true), zi, H', ⟨by first | omega | exact Nat.le_refl _⟩, ⟨zh BK113⟩, ⟨zs1 HB GE113⟩⟩
  subst c7
  have H1 : ((spec_l11In.f a0_1 1 5).bind fun t116 => (if t116 = true then (if a0_3.toList = ([] : List UInt8) then (spec_PlanForm.j0 k true a0_0 a0_1 a0_2 a0_3) else ((spec_l12Odd.f k a0_3).bind fun t117 => (spec_PlanForm.j0 k t117 a0_0 a0_1 a0_2 a0_3))) else (spec_PlanForm.j0 k true a0_0 a0_1 a0_2 a0_3))) = some r := by rw [if_pos rfl] at H; exact H
  clear H
  have H := H1
  clear H1
  replace H := zbd H; obtain ⟨t116, A8, H⟩ := H
  by_cases c9 : t116 = true
  rotate_left
  ·replace c9 := Bool.eq_false_iff.mpr c9
   subst c9
   have H1 : (spec_PlanForm.j0 k true a0_0 a0_1 a0_2 a0_3) = some r := by rw [if_neg (show ¬ (false = true) by decide)] at H; exact H
   clear H
   have H := H1
   clear H1
   have H' := Aside0.mk H
   clear H
   obtain ⟨hcz14_0, hcz14_1, hcz14_2, hcz14_3⟩ := zd4 BK113
   obtain ⟨hfz14_0, hfz14_1, hfz14_2, hfz14_3⟩ := zn4 BK113
   go_wp2_with (first | ((with_reducible refine gate_callee (f := 8) rfl ?_); refine goesL_ (some 5) rfl rfl Tryd.func8 (by kernel_rfl) rfl #[.string a0_0] rfl zl ?_; (with_reducible refine (spec_l11NameOk.calls k a0_0 true _ A4.out).mono ?_); rintro e w' ⟨rfl, ⟨nd, rfl⟩⟩; refine ⟨_, rfl, ?_⟩) | (go_at_call 9; (with_reducible refine (spec_l11In.calls a0_2 1 1000000 true _ A6.out).mono ?_); rintro e w' ⟨rfl, ⟨nd, rfl⟩⟩) | (go_at_call 9; (with_reducible refine (spec_l11In.calls a0_1 1 5 false _ A8.out).mono ?_); rintro e w' ⟨rfl, ⟨nd, rfl⟩⟩))
   go_meet
   case rel => exact ⟨_, (true), zi, H', ⟨by first | omega | exact Nat.le_refl _⟩, ⟨zh BK113⟩, ⟨zs1 HB GE113⟩⟩
  subst c9
  have H1 : (if a0_3.toList = ([] : List UInt8) then (spec_PlanForm.j0 k true a0_0 a0_1 a0_2 a0_3) else ((spec_l12Odd.f k a0_3).bind fun t117 => (spec_PlanForm.j0 k t117 a0_0 a0_1 a0_2 a0_3))) = some r := by rw [if_pos rfl] at H; exact H
  clear H
  have H := H1
  clear H1
  by_cases c10 : a0_3.toList = ([] : List UInt8)
  ·rw [if_pos c10] at H
   have c10b0 : (a0_3.toList == ([] : List UInt8)) = true := beq_iff_eq.mpr c10
   have c10b1 : (a0_3.toList != ([] : List UInt8)) = false := bne_eq_false_iff_eq.mpr c10
   clear c10
   (first | rw [c10b0] | (simp only [i64_w, i32_w]; rw [c10b0]) | skip)
   have H' := Aside0.mk H
   clear H
   obtain ⟨hcz11_0, hcz11_1, hcz11_2, hcz11_3⟩ := zd4 BK113
   obtain ⟨hfz11_0, hfz11_1, hfz11_2, hfz11_3⟩ := zn4 BK113
   go_wp2_with (first | ((with_reducible refine gate_callee (f := 8) rfl ?_); refine goesL_ (some 5) rfl rfl Tryd.func8 (by kernel_rfl) rfl #[.string a0_0] rfl zl ?_; (with_reducible refine (spec_l11NameOk.calls k a0_0 true _ A4.out).mono ?_); rintro e w' ⟨rfl, ⟨nd, rfl⟩⟩; refine ⟨_, rfl, ?_⟩) | (go_at_call 9; (with_reducible refine (spec_l11In.calls a0_2 1 1000000 true _ A6.out).mono ?_); rintro e w' ⟨rfl, ⟨nd, rfl⟩⟩) | (go_at_call 9; (with_reducible refine (spec_l11In.calls a0_1 1 5 true _ A8.out).mono ?_); rintro e w' ⟨rfl, ⟨nd, rfl⟩⟩))
   go_meet
   case rel => exact ⟨_, (true), zi, H', ⟨by first | omega | exact Nat.le_refl _⟩, ⟨zh BK113⟩, ⟨zs1 HB GE113⟩⟩
  rw [if_neg c10] at H
  have c10b0 : (a0_3.toList == ([] : List UInt8)) = false := beq_eq_false_iff_ne.mpr c10
  have c10b1 : (a0_3.toList != ([] : List UInt8)) = true := bne_iff_ne.mpr c10
  (first | rw [c10b0] | (simp only [i64_w, i32_w]; rw [c10b0]) | skip)
  replace H := zbd H; obtain ⟨t117, A12, H⟩ := H
  have H' := Aside0.mk H
  clear H
  obtain ⟨hcz13_0, hcz13_1, hcz13_2, hcz13_3⟩ := zd4 BK113
  obtain ⟨hfz13_0, hfz13_1, hfz13_2, hfz13_3⟩ := zn4 BK113
  go_wp2_with (first | ((with_reducible refine gate_callee (f := 8) rfl ?_); refine goesL_ (some 5) rfl rfl Tryd.func8 (by kernel_rfl) rfl #[.string a0_0] rfl zl ?_; (with_reducible refine (spec_l11NameOk.calls k a0_0 true _ A4.out).mono ?_); rintro e w' ⟨rfl, ⟨nd, rfl⟩⟩; refine ⟨_, rfl, ?_⟩) | (go_at_call 9; (with_reducible refine (spec_l11In.calls a0_2 1 1000000 true _ A6.out).mono ?_); rintro e w' ⟨rfl, ⟨nd, rfl⟩⟩) | (go_at_call 9; (with_reducible refine (spec_l11In.calls a0_1 1 5 true _ A8.out).mono ?_); rintro e w' ⟨rfl, ⟨nd, rfl⟩⟩) | (go_at_call 10; (with_reducible refine (spec_l12Odd.calls k a0_3 t117 _ A12.out).mono ?_); rintro e w' ⟨rfl, ⟨nd, rfl⟩⟩))
  go_meet
  case rel => exact ⟨_, (t117), zi, H', ⟨by first | omega | exact Nat.le_refl _⟩, ⟨zh BK113⟩, ⟨zs1 HB GE113⟩⟩
 case rest =>
  clear HC2
  try clear c1
  try clear p2
  try clear c5
  try clear c7
  try clear c8
  try clear c9
  try clear c10
  try clear c10b0
  try clear c10b1
  try clear hcz11_0 hcz11_1 hcz11_2 hcz11_3
  try clear hcz13_0 hcz13_1 hcz13_2 hcz13_3
  try clear hcz14_0 hcz14_1 hcz14_2 hcz14_3
  try clear hcz15_0 hcz15_1 hcz15_2 hcz15_3
  try clear hcz16_0 hcz16_1 hcz16_2 hcz16_3
  try clear hfz11_0 hfz11_1 hfz11_2 hfz11_3
  try clear hfz13_0 hfz13_1 hfz13_2 hfz13_3
  try clear hfz14_0 hfz14_1 hfz14_2 hfz14_3
  try clear hfz15_0 hfz15_1 hfz15_2 hfz15_3
  try clear hfz16_0 hfz16_1 hfz16_2 hfz16_3
  obtain ⟨kq, x28_1, rfl, HA, HJ1, BK113, HB⟩ := hcut
  cases kq with
  | zero => exact absurd HA.out (by simp [spec_PlanForm.j0])
  | succ kj1 =>
   have H := HA.out
   clear HA
   simp only [spec_PlanForm.j0] at H
   by_cases c17 : x28_1 = true
   ·subst c17
    have H1 : (some (⟨#[]⟩ : ByteArray)) = some r := by rw [if_pos rfl] at H; exact H
    clear H
    have H := H1
    clear H1
    obtain rfl := Option.some.inj H
    go_wp2
    go_ret
    exact ⟨ze, zs1 HB GE113⟩
   replace c17 := Bool.eq_false_iff.mpr c17
   subst c17
   have H1 : (if 4 + a0_0.size ≤ 9223372036854775807 then (if ((⟨#[115, 101, 116, 32]⟩ : ByteArray) ++ a0_0).size + 1 ≤ 9223372036854775807 then ((spec_l12Words.f).bind fun t118 => (if 0 ≤ (wrap64 (a0_1 - 1)) then (if (wrap64 (a0_1 - 1)) < (t118.length : Int) then (if (((⟨#[115, 101, 116, 32]⟩ : ByteArray) ++ a0_0) ++ (⟨#[32]⟩ : ByteArray)).size + (rdOf ByteArray.empty t118 (wrap64 (a0_1 - 1))).size ≤ 9223372036854775807 then (if ((((⟨#[115, 101, 116, 32]⟩ : ByteArray) ++ a0_0) ++ (⟨#[32]⟩ : ByteArray)) ++ (rdOf ByteArray.empty t118 (wrap64 (a0_1 - 1)))).size + 1 ≤ 9223372036854775807 then ((spec_l12Dec.f kj1 a0_2).bind fun t122 => (if (((((⟨#[115, 101, 116, 32]⟩ : ByteArray) ++ a0_0) ++ (⟨#[32]⟩ : ByteArray)) ++ (rdOf ByteArray.empty t118 (wrap64 (a0_1 - 1)))) ++ (⟨#[32]⟩ : ByteArray)).size + t122.size ≤ 9223372036854775807 then (if ((((((⟨#[115, 101, 116, 32]⟩ : ByteArray) ++ a0_0) ++ (⟨#[32]⟩ : ByteArray)) ++ (rdOf ByteArray.empty t118 (wrap64 (a0_1 - 1)))) ++ (⟨#[32]⟩ : ByteArray)) ++ t122).size + 1 ≤ 9223372036854775807 then (if (((((((⟨#[115, 101, 116, 32]⟩ : ByteArray) ++ a0_0) ++ (⟨#[32]⟩ : ByteArray)) ++ (rdOf ByteArray.empty t118 (wrap64 (a0_1 - 1)))) ++ (⟨#[32]⟩ : ByteArray)) ++ t122) ++ (⟨#[32]⟩ : ByteArray)).size + a0_3.size ≤ 9223372036854775807 then (some ((((((((⟨#[115, 101, 116, 32]⟩ : ByteArray) ++ a0_0) ++ (⟨#[32]⟩ : ByteArray)) ++ (rdOf ByteArray.empty t118 (wrap64 (a0_1 - 1)))) ++ (⟨#[32]⟩ : ByteArray)) ++ t122) ++ (⟨#[32]⟩ : ByteArray)) ++ a0_3)) else (none)) else (none)) else (none))) else (none)) else (none)) else (none)) else (none))) else (none)) else (none)) = some r := by rw [if_neg (show ¬ (false = true) by decide)] at H; exact H
   clear H
   have H := H1
   clear H1
   by_cases c18 : 4 + a0_0.size ≤ 9223372036854775807
   rotate_left
   ·rw [if_neg c18] at H
    exact absurd H (by simp)
   rw [if_pos c18] at H
   have c18b0 := eq_true c18
   have c18b1 : decide (4 + a0_0.size ≤ 9223372036854775807) = true := decide_eq_true c18
   try have c18b2 : (9223372036854775807 < 4 + a0_0.size) = False := eq_false (Nat.not_lt.2 c18)
   by_cases c19 : ((⟨#[115, 101, 116, 32]⟩ : ByteArray) ++ a0_0).size + 1 ≤ 9223372036854775807
   rotate_left
   ·rw [if_neg c19] at H
    exact absurd H (by simp)
   rw [if_pos c19] at H
   have c19b0 := eq_true c19
   have c19b1 : decide (((⟨#[115, 101, 116, 32]⟩ : ByteArray) ++ a0_0).size + 1 ≤ 9223372036854775807) = true := decide_eq_true c19
   try have c19b2 : (9223372036854775807 < ((⟨#[115, 101, 116, 32]⟩ : ByteArray) ++ a0_0).size + 1) = False := eq_false (Nat.not_lt.2 c19)
   try have c19b3 : (9223372036854775807 < 4 + a0_0.size + 1) = False := eq_false (Nat.not_lt.2 (by have h_ := c19; simp only [ByteArray.size_append] at h_; exact h_))
   replace H := zbd H; obtain ⟨t118, A20, H⟩ := H
   obtain ⟨ji21, hji21⟩ : ∃ j_ : Int, (wrap64 (a0_1 - 1)) = j_ := ⟨_, rfl⟩
   first | rw [hji21] at H | simp only [hji21] at H
   (try rw [hji21] at A20)
   have hji21w : (IntKind.i64.wrap (a0_1 - 1)) = ji21 := (i64_w _).trans hji21
   by_cases c22 : 0 ≤ (ji21)
   rotate_left
   ·rw [if_neg c22] at H
    exact absurd H (by simp)
   rw [if_pos c22] at H
   have c22b0 : decide (0 ≤ (ji21)) = true := decide_eq_true c22
   clear c22
   by_cases c23 : (ji21) < (t118.length : Int)
   rotate_left
   ·rw [if_neg c23] at H
    exact absurd H (by simp)
   rw [if_pos c23] at H
   have c23b0 : decide ((ji21) < (t118.length : Int)) = true := decide_eq_true c23
   clear c23
   by_cases c24 : (((⟨#[115, 101, 116, 32]⟩ : ByteArray) ++ a0_0) ++ (⟨#[32]⟩ : ByteArray)).size + (rdOf ByteArray.empty t118 (ji21)).size ≤ 9223372036854775807
   rotate_left
   ·rw [if_neg c24] at H
    exact absurd H (by simp)
   rw [if_pos c24] at H
   have c24b0 := eq_true c24
   have c24b1 : decide ((((⟨#[115, 101, 116, 32]⟩ : ByteArray) ++ a0_0) ++ (⟨#[32]⟩ : ByteArray)).size + (rdOf ByteArray.empty t118 (ji21)).size ≤ 9223372036854775807) = true := decide_eq_true c24
   try have c24b2 : (9223372036854775807 < (((⟨#[115, 101, 116, 32]⟩ : ByteArray) ++ a0_0) ++ (⟨#[32]⟩ : ByteArray)).size + (rdOf ByteArray.empty t118 (ji21)).size) = False := eq_false (Nat.not_lt.2 c24)
   try have c24b3 : (9223372036854775807 < 4 + a0_0.size + 1 + (rdOf ByteArray.empty t118 (ji21)).size) = False := eq_false (Nat.not_lt.2 (by have h_ := c24; simp only [ByteArray.size_append] at h_; exact h_))
   by_cases c25 : ((((⟨#[115, 101, 116, 32]⟩ : ByteArray) ++ a0_0) ++ (⟨#[32]⟩ : ByteArray)) ++ (rdOf ByteArray.empty t118 (ji21))).size + 1 ≤ 9223372036854775807
   rotate_left
   ·rw [if_neg c25] at H
    exact absurd H (by simp)
   rw [if_pos c25] at H
   have c25b0 := eq_true c25
   have c25b1 : decide (((((⟨#[115, 101, 116, 32]⟩ : ByteArray) ++ a0_0) ++ (⟨#[32]⟩ : ByteArray)) ++ (rdOf ByteArray.empty t118 (ji21))).size + 1 ≤ 9223372036854775807) = true := decide_eq_true c25
   try have c25b2 : (9223372036854775807 < ((((⟨#[115, 101, 116, 32]⟩ : ByteArray) ++ a0_0) ++ (⟨#[32]⟩ : ByteArray)) ++ (rdOf ByteArray.empty t118 (ji21))).size + 1) = False := eq_false (Nat.not_lt.2 c25)
   try have c25b3 : (9223372036854775807 < 4 + a0_0.size + 1 + (rdOf ByteArray.empty t118 (ji21)).size + 1) = False := eq_false (Nat.not_lt.2 (by have h_ := c25; simp only [ByteArray.size_append] at h_; exact h_))
   replace H := zbd H; obtain ⟨t122, A26, H⟩ := H
   by_cases c27 : (((((⟨#[115, 101, 116, 32]⟩ : ByteArray) ++ a0_0) ++ (⟨#[32]⟩ : ByteArray)) ++ (rdOf ByteArray.empty t118 (ji21))) ++ (⟨#[32]⟩ : ByteArray)).size + t122.size ≤ 9223372036854775807
   rotate_left
   ·rw [if_neg c27] at H
    exact absurd H (by simp)
   rw [if_pos c27] at H
   have c27b0 := eq_true c27
   have c27b1 : decide ((((((⟨#[115, 101, 116, 32]⟩ : ByteArray) ++ a0_0) ++ (⟨#[32]⟩ : ByteArray)) ++ (rdOf ByteArray.empty t118 (ji21))) ++ (⟨#[32]⟩ : ByteArray)).size + t122.size ≤ 9223372036854775807) = true := decide_eq_true c27
   try have c27b2 : (9223372036854775807 < (((((⟨#[115, 101, 116, 32]⟩ : ByteArray) ++ a0_0) ++ (⟨#[32]⟩ : ByteArray)) ++ (rdOf ByteArray.empty t118 (ji21))) ++ (⟨#[32]⟩ : ByteArray)).size + t122.size) = False := eq_false (Nat.not_lt.2 c27)
   try have c27b3 : (9223372036854775807 < 4 + a0_0.size + 1 + (rdOf ByteArray.empty t118 (ji21)).size + 1 + t122.size) = False := eq_false (Nat.not_lt.2 (by have h_ := c27; simp only [ByteArray.size_append] at h_; exact h_))
   by_cases c28 : ((((((⟨#[115, 101, 116, 32]⟩ : ByteArray) ++ a0_0) ++ (⟨#[32]⟩ : ByteArray)) ++ (rdOf ByteArray.empty t118 (ji21))) ++ (⟨#[32]⟩ : ByteArray)) ++ t122).size + 1 ≤ 9223372036854775807
   rotate_left
   ·rw [if_neg c28] at H
    exact absurd H (by simp)
   rw [if_pos c28] at H
   have c28b0 := eq_true c28
   have c28b1 : decide (((((((⟨#[115, 101, 116, 32]⟩ : ByteArray) ++ a0_0) ++ (⟨#[32]⟩ : ByteArray)) ++ (rdOf ByteArray.empty t118 (ji21))) ++ (⟨#[32]⟩ : ByteArray)) ++ t122).size + 1 ≤ 9223372036854775807) = true := decide_eq_true c28
   try have c28b2 : (9223372036854775807 < ((((((⟨#[115, 101, 116, 32]⟩ : ByteArray) ++ a0_0) ++ (⟨#[32]⟩ : ByteArray)) ++ (rdOf ByteArray.empty t118 (ji21))) ++ (⟨#[32]⟩ : ByteArray)) ++ t122).size + 1) = False := eq_false (Nat.not_lt.2 c28)
   try have c28b3 : (9223372036854775807 < 4 + a0_0.size + 1 + (rdOf ByteArray.empty t118 (ji21)).size + 1 + t122.size + 1) = False := eq_false (Nat.not_lt.2 (by have h_ := c28; simp only [ByteArray.size_append] at h_; exact h_))
   by_cases c29 : (((((((⟨#[115, 101, 116, 32]⟩ : ByteArray) ++ a0_0) ++ (⟨#[32]⟩ : ByteArray)) ++ (rdOf ByteArray.empty t118 (ji21))) ++ (⟨#[32]⟩ : ByteArray)) ++ t122) ++ (⟨#[32]⟩ : ByteArray)).size + a0_3.size ≤ 9223372036854775807
   rotate_left
   ·rw [if_neg c29] at H
    exact absurd H (by simp)
   rw [if_pos c29] at H
   have c29b0 := eq_true c29
   have c29b1 : decide ((((((((⟨#[115, 101, 116, 32]⟩ : ByteArray) ++ a0_0) ++ (⟨#[32]⟩ : ByteArray)) ++ (rdOf ByteArray.empty t118 (ji21))) ++ (⟨#[32]⟩ : ByteArray)) ++ t122) ++ (⟨#[32]⟩ : ByteArray)).size + a0_3.size ≤ 9223372036854775807) = true := decide_eq_true c29
   try have c29b2 : (9223372036854775807 < (((((((⟨#[115, 101, 116, 32]⟩ : ByteArray) ++ a0_0) ++ (⟨#[32]⟩ : ByteArray)) ++ (rdOf ByteArray.empty t118 (ji21))) ++ (⟨#[32]⟩ : ByteArray)) ++ t122) ++ (⟨#[32]⟩ : ByteArray)).size + a0_3.size) = False := eq_false (Nat.not_lt.2 c29)
   try have c29b3 : (9223372036854775807 < 4 + a0_0.size + 1 + (rdOf ByteArray.empty t118 (ji21)).size + 1 + t122.size + 1 + a0_3.size) = False := eq_false (Nat.not_lt.2 (by have h_ := c29; simp only [ByteArray.size_append] at h_; exact h_))
   obtain rfl := Option.some.inj H
   try go_wp2
   replace BK113 := Aside0.mk (blk_drew BK113.out)
   replace HB := Aside0.mk (below_drew1 HB.out)
   refine start_ (n := 21) (S := fun w' => w'.cell? ⟨gb113, 0, none⟩ = some (.string a0_0) ∧ w'.cell? ⟨gb113, 1, none⟩ = some (.int .i64 a0_1) ∧ w'.cell? ⟨gb113, 2, none⟩ = some (.int .i64 a0_2) ∧ w'.cell? ⟨gb113, 3, none⟩ = some (.string a0_3)) (ds := []) #[false, false, false, false, false, false, false, false, false, false, false, false, false, false, false, false, false, false, false, false, false] (by kernel_rfl) rfl rfl ⟨zc0 BK113, zc1 BK113, zc2 BK113, zc3 BK113⟩ (fun hHeld => ?_); refine with_tabW spec_PlanForm.tab3 spec_PlanForm.bits3 (fun HT_ HW_ => ?_)
   generalize wc.drew = w30 at BK113 HB hHeld ⊢
   refine zq HT_ 0 ?_
   refine zq HT_ 5 ?_
   refine zq HT_ 12 ?_
   refine zq HT_ 17 ?_
   refine zk4 HT_ HW_ hHeld 1 ?_
   refine zq HT_ 2 ?_
   refine zq HT_ 3 ?_
   refine zk4 HT_ HW_ hHeld 6 ?_
   refine zq HT_ 7 ?_
   refine zk4 HT_ HW_ hHeld 13 ?_
   refine zk4 HT_ HW_ hHeld 18 ?_
   refine zo HT_ 4 (fun K hK => ?_)
   refine goes_ Tryd.func11 (by kernel_rfl) rfl #[] (by rfl) rfl rfl zl ?_
   with_reducible refine (spec_l12Words.calls  t118 _ A20.out).mono ?_
   rintro e w31 ⟨v119, rfl, ho0, hb⟩
   refine ⟨_, rfl, ?_⟩
   have HO120 := Aside0.mk (Kd.R_lower ho0 (below_size (zs1 HB GE113)))
   replace BK113 := zb BK113 hb
   replace HB := zE (zs1 HB GE113) hb
   (try clear hb)
   (try clear hb2)
   (try clear hk)
   (try clear hi)
   (try clear ho0)
   obtain ⟨Ao32, co32, eo32⟩ := Kd.R_slice HO120.out
   (first | subst eo32 | (injection eo32 with f1_ f2_ f3_; have f4_ := f1_.symm; have f5_ := f3_.symm; clear f1_ f2_ f3_; subst f4_; subst f5_))
   have p121 : 0 ≤ ((ji21) : Int) := za
   have q121 : (ji21) < (t118.length : Int) := za
   obtain ⟨ad121, e121, hx121_0⟩ := Kd.at_string (Kd.R_reads' HO120.out).2.2 (ji21) p121 q121
   cases e121
   replace p121 := eq_true p121
   replace q121 := eq_true q121
   refine hK.out _ _ ⟨zc0 BK113, zc1 BK113, zc2 BK113, zc3 BK113⟩ (fun hHeld0 => ?_)
   clear hK K
   have hHeld : (fun (w' : World) => w'.cell? ⟨gb113, 0, none⟩ = some (.string a0_0) ∧ w'.cell? ⟨gb113, 1, none⟩ = some (.int .i64 a0_1) ∧ w'.cell? ⟨gb113, 2, none⟩ = some (.int .i64 a0_2) ∧ w'.cell? ⟨gb113, 3, none⟩ = some (.string a0_3) ∧ w'.cell? (ad121.add ((ji21)).toNat) = some (.string (rdOf ByteArray.empty t118 (ji21)))) _ := ⟨hHeld0.1, hHeld0.2.1, hHeld0.2.2.1, hHeld0.2.2.2, hx121_0⟩
   refine wp_less (S2 := fun (w' : World) => w'.cell? ⟨gb113, 0, none⟩ = some (.string a0_0) ∧ w'.cell? ⟨gb113, 1, none⟩ = some (.int .i64 a0_1) ∧ w'.cell? ⟨gb113, 2, none⟩ = some (.int .i64 a0_2) ∧ w'.cell? ⟨gb113, 3, none⟩ = some (.string a0_3) ∧ w'.cell? (ad121.add ((ji21)).toNat) = some (.string (rdOf ByteArray.empty t118 (ji21)))) (fun _ h_ => ⟨h_.1, h_.2.1, h_.2.2.1, h_.2.2.2.1⟩) _ _ _ _ hHeld ?_
   refine zN ?_
   refine zq HT_ 8 ?_
   refine zk5 HT_ HW_ hHeld 9 ?_
   refine zq HT_ 10 ?_
   refine zq HT_ 11 ?_
   refine zo HT_ 14 (fun K hK => ?_)
   refine goes_ Tryd.func12 (by kernel_rfl) rfl #[.int .i64 a0_2] (by rfl) rfl rfl zl ?_
   with_reducible refine (spec_l12Dec.calls kj1 a0_2 t122 _ A26.out).mono ?_
   rintro e w33 ⟨rfl, hb⟩
   have HS4_ := zhc hb (hHeld.2.2.2.2)
   refine ⟨_, rfl, ?_⟩
   replace HO120 := Aside0.mk (Kd.R_below (zr HO120) hb)
   replace BK113 := zb BK113 hb
   replace HB := zE (zs1 HB GE113) hb
   (try clear hb)
   (try clear hb2)
   (try clear hk)
   (try clear hi)
   refine hK.out _ _ ⟨zc0 BK113, zc1 BK113, zc2 BK113, zc3 BK113, HS4_⟩ (fun hHeld => ?_)
   clear hK K
   refine zN ?_
   refine zq HT_ 15 ?_
   refine zq HT_ 16 ?_
   refine zq HT_ 19 ?_
   refine zq HT_ 20 ?_
   refine done_ (done_of HT_.out (by kernel_rfl)) ?_
   try go_wp2
   go_ret
   exact ⟨by first | rfl | (simp [errW_none, errW_some] <;> rfl) | (simp only [← hji21]; first | rfl | (simp [errW_none, errW_some] <;> rfl)) | (simp [*, errW_none, errW_some] <;> rfl), zs1 HB GE113⟩
def laws_toPlanChange.f (a0_0 : ByteArray) (a0_1 : Int) (a0_2 : Int) (a0_3 : ByteArray) : Option (ByteArray × Int × Int × ByteArray) := some (a0_0, a0_1, a0_2, a0_3)
set_option maxHeartbeats 8000000 in
set_option maxRecDepth 100000 in
theorem laws_toPlanChange.calls (a0_0 : ByteArray) (a0_1 : Int) (a0_2 : Int) (a0_3 : ByteArray) (r1 : ByteArray) (r2 : Int) (r3 : Int) (r4 : ByteArray) (w : World) (h : laws_toPlanChange.f a0_0 a0_1 a0_2 a0_3 = some (r1, r2, r3, r4)) :
 Calls Tryd.prog 6 #[.agg #[.string a0_0, .int .i64 a0_1, .int .i64 a0_2, .string a0_3]] w fun e w' => e = .returned (.agg #[.string r1, .int .i64 r2, .int .i64 r3, .string r4]) ∧ Below w.heap.size w w' := by
 have hu23 := Tryd.underlying23
 have hu26 := Tryd.underlying26
 have HB := Aside0.mk (Below.refl w.heap.size w)
 have H : (some (a0_0, a0_1, a0_2, a0_3)) = some (r1, r2, r3, r4) := h
 clear h
 simp only [Option.some.injEq, Prod.mk.injEq] at H
 obtain ⟨rfl, rfl, rfl, rfl⟩ := H
 go_enter Tryd.func6, Tryd.ntmps6
 go_wp2_with (first | ((with_reducible refine gate_dst (N := 1) rfl ?_); refine zbx 1 #[.string a0_0, .int .i64 a0_1, .int .i64 a0_2, .string a0_3] 23 ?_; intro gb123 hg w2 hbox hb; have BK123 := zA hbox; have GW123 := zgs hg (zs0 HB); have GE123 := zgs hg (zs0 HB); replace HB := zE (zs0 HB) hb; clear hb hbox hg) | ((with_reducible refine gate_dst (N := 2) rfl ?_); refine zbx 2 #[.string (⟨#[]⟩ : ByteArray), .int .i64 0, .int .i64 0, .string (⟨#[]⟩ : ByteArray)] 26 ?_; intro gb124 hg w3 hbox hb; have BK124 := zA hbox; have GW124 := zgs hg (zs1 HB GE123); have GE124 := zgs hg (zs1 HB GE123); have NB123_124 := zne hg BK123; have NB124_123 := znf hg BK123; replace BK123 := zb BK123 hb; replace HB := zE (zs1 HB GE123) hb; clear hb hbox hg) | ((with_reducible refine gate_dst (N := 3) rfl ?_); refine zbx 3 #[.string (⟨#[]⟩ : ByteArray), .int .i64 0, .int .i64 0, .string (⟨#[]⟩ : ByteArray)] 26 ?_; intro gb125 hg w4 hbox hb; have BK125 := zA hbox; have GW125 := zgs hg (zs2 HB GE123 GE124); have GE125 := zgs hg (zs2 HB GE123 GE124); have NB123_125 := zne hg BK123; have NB125_123 := znf hg BK123; have NB124_125 := zne hg BK124; have NB125_124 := znf hg BK124; replace BK123 := zb BK123 hb; replace BK124 := zb BK124 hb; replace HB := zE (zs2 HB GE123 GE124) hb; clear hb hbox hg; have hnb5 := NB123_124.out; have hnc5 := NB124_123.out; have hnb6 := NB123_125.out; have hnc6 := NB125_123.out; obtain ⟨hcz7_0, hcz7_1, hcz7_2, hcz7_3⟩ := zd4 BK123; obtain ⟨hfz7_0, hfz7_1, hfz7_2, hfz7_3⟩ := zn4 BK123; have hnb8 := NB125_124.out; have hnc8 := NB124_125.out; obtain ⟨hcz9_0, hcz9_1, hcz9_2, hcz9_3⟩ := zd4 BK125; obtain ⟨hfz9_0, hfz9_1, hfz9_2, hfz9_3⟩ := zn4 BK125; obtain ⟨hcz10_0, hcz10_1, hcz10_2, hcz10_3⟩ := zd4 BK124; obtain ⟨hfz10_0, hfz10_1, hfz10_2, hfz10_3⟩ := zn4 BK124))
 refine bodyPost_ret (results_cell_row rfl _ _ gb124 26 #[.string a0_0, .int .i64 a0_1, .int .i64 a0_2, .string a0_3] (0, 0) _ rfl ?hz Tryd.underlying26 rfl (by kernel_rfl)) rfl ?_; (case hz => exact zpf BK124 NB124_125)
 exact ⟨ze, zs3 HB GE123 GE124 GE125⟩
end Go.Proofs.YtkphmngnanccbaaDoor.QFnExactPlanForm
