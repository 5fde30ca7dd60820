/- The walk of what the law FnExactHandWordOk reaches: laid by a program of this session (ownprint.py). -/
import Derived.Test.YtbgcpbdnmpnjhaaQFnExactHandWordOkx0
import Derived.Test.YtbgcpbdnmpnjhaaQFnExactHandWordOkx1
namespace Go.Proofs.Ytbgcpbdnmpnjhaa.QFnExactHandWordOk
open Go.RowKit Go.Proofs.YtbgcpbdnmpnjhaaW.PrintWords Go.Proofs.YtbgcpbdnmpnjhaaW.PrintLast Go.Proofs.YtbgcpbdnmpnjhaaW.PrintMore Go.Proofs.Ytbgcpbdnmpnjhaa.Z
attribute [local go_sem] max2_int min2_int max_two min_two max_three min_three max_four min_four zdn   -- for this text's walks alone
set_option linter.unusedVariables false
set_option linter.unusedSimpArgs false
def spec_l32Zone.l0 : Nat → List (S48) → ByteArray → Int → Option (Int)
 | 0, _, _, _ => none
 | k + 1, x0, x1, x5 => if x5 < (x0.length : Int) then (if 0 ≤ x5 then (if ((rd_T48 x0 x5).f0).toList = x1.toList then (some x5) else (spec_l32Zone.l0 k x0 x1 (wrap64 (x5 + 1)))) else (none)) else (some (-1))
def spec_l32Zone.f (k : Nat) (l0 : List (S48)) (a1 : ByteArray) : Option (Int) := spec_l32Zone.l0 k l0 a1 0
set_option maxHeartbeats 8000000 in
set_option maxRecDepth 100000 in
theorem spec_l32Zone.calls (k : Nat) (A0 : Option Addr) (c0 : Nat) (l0 : List (S48)) (a1 : ByteArray) (r : Int) (w : World) (hr0 : Kd.C k48 w A0 l0.length l0) (hc0 : l0.length ≤ c0) (h : spec_l32Zone.f k l0 a1 = some r) :
 Calls Try.prog 27 #[.slice A0 l0.length c0, .string a1] w fun e w' => e = .returned (.int .i64 r) ∧ Drawn0 w w' := by
 have HR0 := Aside0.mk hr0
 have HC0 := Aside0.mk hc0
 clear hr0 hc0
 have H : (spec_l32Zone.l0 k l0 a1 0) = some r := h
 clear h
 have H' := Aside0.mk H
 clear H
 go_enter Try.func27, Try.ntmps27
 go_wp2
 go_loopg [5] k (fun kq v5 w' => ∃ (x5_1 : Int), v5 = .int .i64 x5_1 ∧ Aside0 (spec_l32Zone.l0 kq l0 a1 x5_1 = some r) ∧ Aside0 (kq ≤ k) ∧ Drawn0 w w')
 case atStart => exact ⟨(0), zi, H', ⟨Nat.le_refl _⟩, by repeat (first | exact Drawn0.refl _ | apply Drawn0.step)⟩
 case round =>
  clear H'
  try clear c2
  try clear p2
  obtain ⟨x5_1, rfl, HA, HK1, ⟨m1, rfl⟩⟩ := hrel
  cases gk with
  | zero => exact absurd HA.out (by simp [spec_l32Zone.l0])
  | succ k1 =>
   have H := HA.out
   clear HA
   simp only [spec_l32Zone.l0] at H
   by_cases c3 : x5_1 < (l0.length : Int)
   rotate_left
   ·rw [if_neg c3] at H
    have c3b0 : decide (x5_1 < (l0.length : Int)) = false := decide_eq_false c3
    clear c3
    obtain rfl := Option.some.inj H
    go_wp2
    go_ret
    exact ⟨by first | rfl | (simp; done) | (simp [*]; done), by repeat (first | exact Drawn0.refl _ | apply Drawn0.step)⟩
   rw [if_pos c3] at H
   have c3b0 : decide (x5_1 < (l0.length : Int)) = true := decide_eq_true c3
   clear c3
   by_cases c4 : 0 ≤ x5_1
   rotate_left
   ·rw [if_neg c4] at H
    exact absurd H (by simp)
   rw [if_pos c4] at H
   have c4b0 : decide (0 ≤ x5_1) = true := decide_eq_true c4
   clear c4
   by_cases c5 : ((rd_T48 l0 x5_1).f0).toList = a1.toList
   ·rw [if_pos c5] at H
    have c5b0 : (((rd_T48 l0 x5_1).f0).toList == a1.toList) = true := beq_iff_eq.mpr c5
    have c5b1 : (((rd_T48 l0 x5_1).f0).toList != a1.toList) = false := bne_eq_false_iff_eq.mpr c5
    clear c5
    obtain rfl := Option.some.inj H
    have p118 : 0 ≤ (x5_1 : Int) := za
    have q118 : x5_1 < (l0.length : Int) := za
    obtain ⟨ad118, e118, hx118_0, hx118_1, hx118_2, hx118_3, hx118_4⟩ := at_T48 HR0.out x5_1 p118 q118
    cases e118
    replace p118 := eq_true p118
    replace q118 := eq_true q118
    go_wp2
    go_ret
    exact ⟨by first | rfl | (simp; done) | (simp [*]; done), by repeat (first | exact Drawn0.refl _ | apply Drawn0.step)⟩
   rw [if_neg c5] at H
   have c5b0 : (((rd_T48 l0 x5_1).f0).toList == a1.toList) = false := beq_eq_false_iff_ne.mpr c5
   have c5b1 : (((rd_T48 l0 x5_1).f0).toList != a1.toList) = true := bne_iff_ne.mpr c5
   have H' := Aside0.mk H
   clear H
   have p118 : 0 ≤ (x5_1 : Int) := za
   have q118 : x5_1 < (l0.length : Int) := za
   obtain ⟨ad118, e118, hx118_0, hx118_1, hx118_2, hx118_3, hx118_4⟩ := at_T48 HR0.out x5_1 p118 q118
   cases e118
   replace p118 := eq_true p118
   replace q118 := eq_true q118
   go_wp2
   go_roundg k1
   case measure => have := HK1.out; omega
   case rel => exact ⟨(wrap64 (x5_1 + 1)), zi, H', ⟨by have := HK1.out; omega⟩, by repeat (first | exact Drawn0.refl _ | apply Drawn0.step)⟩
def spec_l32EndsOk.f (k : Nat) (l0 : List (S48)) (a1_0 : Int) (a1_1 : ByteArray) (a1_2 : ByteArray) (a1_3 : ByteArray) (a1_4 : Int) (a1_5 : Int) (a1_6 : Int) (l1_7 : List (S56)) : Option (Bool) := (spec_l32Zone.f k l0 a1_1).bind fun t120 => ((spec_l32Zone.f k l0 a1_2).bind fun t121 => (if a1_0 = 7 then (if t120 ≥ 0 then (some (a1_2.toList == ([] : List UInt8))) else (some false)) else (if a1_0 = 8 then (if a1_1.toList = ([] : List UInt8) then (some (decide (t121 ≥ 0))) else (some false)) else (if a1_0 = 9 then (if a1_1.toList = ([] : List UInt8) then (some (decide (t121 ≥ 0))) else (some false)) else (if t120 ≥ 0 then (some (decide (t121 ≥ 0))) else (some false))))))
set_option maxHeartbeats 8000000 in
set_option maxRecDepth 100000 in
theorem spec_l32EndsOk.calls (k : Nat) (A0 : Option Addr) (c0 : Nat) (l0 : List (S48)) (a1_0 : Int) (a1_1 : ByteArray) (a1_2 : ByteArray) (a1_3 : ByteArray) (a1_4 : Int) (a1_5 : Int) (a1_6 : Int) (A1_7 : Option Addr) (c1_7 : Nat) (l1_7 : List (S56)) (r : Bool) (w : World) (hr0 : Kd.C k48 w A0 l0.length l0) (hc0 : l0.length ≤ c0) (hr1_7 : Kd.C k56 w A1_7 l1_7.length l1_7) (hc1_7 : l1_7.length ≤ c1_7) (h : spec_l32EndsOk.f k l0 a1_0 a1_1 a1_2 a1_3 a1_4 a1_5 a1_6 l1_7 = some r) :
 Calls Try.prog 16 #[.slice A0 l0.length c0, .agg #[.int .i64 a1_0, .string a1_1, .string a1_2, .string a1_3, .int .i64 a1_4, .int .i64 a1_5, .int .i64 a1_6, .slice A1_7 l1_7.length c1_7]] w fun e w' => e = .returned (.bool r) ∧ Below w.heap.size w w' := by
 have hu33 := Try.underlying33
 have HR0 := Aside0.mk hr0
 have HC0 := Aside0.mk hc0
 clear hr0 hc0
 have HR1_7 := Aside0.mk hr1_7
 have HC1_7 := Aside0.mk hc1_7
 clear hr1_7 hc1_7
 have HB := Aside0.mk (Below.refl w.heap.size w)
 have H : ((spec_l32Zone.f k l0 a1_1).bind fun t120 => ((spec_l32Zone.f k l0 a1_2).bind fun t121 => (if a1_0 = 7 then (if t120 ≥ 0 then (some (a1_2.toList == ([] : List UInt8))) else (some false)) else (if a1_0 = 8 then (if a1_1.toList = ([] : List UInt8) then (some (decide (t121 ≥ 0))) else (some false)) else (if a1_0 = 9 then (if a1_1.toList = ([] : List UInt8) then (some (decide (t121 ≥ 0))) else (some false)) else (if t120 ≥ 0 then (some (decide (t121 ≥ 0))) else (some false))))))) = some r := h
 clear h
 replace H := zbd H; obtain ⟨t120, A3, H⟩ := H
 replace H := Option.bind_eq_some_iff.mp H
 obtain ⟨t121, A40, H⟩ := H
 replace H : (if a1_0 = 7 then (if t120 ≥ 0 then (some (a1_2.toList == ([] : List UInt8))) else (some false)) else (if a1_0 = 8 then (if a1_1.toList = ([] : List UInt8) then (some (decide (t121 ≥ 0))) else (some false)) else (if a1_0 = 9 then (if a1_1.toList = ([] : List UInt8) then (some (decide (t121 ≥ 0))) else (some false)) else (if t120 ≥ 0 then (some (decide (t121 ≥ 0))) else (some false))))) = some r := H
 have A4 := Aside0.mk A40
 clear A40
 by_cases c5 : a1_0 = 7
 ·rw [if_pos c5] at H
  have c5b0 : (a1_0 == 7) = true := beq_iff_eq.mpr c5
  have c5b1 : (a1_0 != 7) = false := bne_eq_false_iff_eq.mpr c5
  clear c5
  by_cases c6 : t120 ≥ 0
  ·rw [if_pos c6] at H
   have c6b0 : decide (0 ≤ t120) = true := decide_eq_true c6
   clear c6
   obtain rfl := Option.some.inj H
   go_enter Try.func16, Try.ntmps16
   go_wp2_with (first | ((with_reducible refine gate_dst (N := 3) rfl ?_); refine zbx 3 #[.int .i64 a1_0, .string a1_1, .string a1_2, .string a1_3, .int .i64 a1_4, .int .i64 a1_5, .int .i64 a1_6, .slice A1_7 l1_7.length c1_7] 33 ?_; intro gb119 hg w7 hbox hb; have BK119 := zA hbox; have GW119 := zgs hg (zs0 HB); have GE119 := zgs hg (zs0 HB); replace HB := zE (zs0 HB) hb; clear hb hbox hg; obtain ⟨hcz8_0, hcz8_1, hcz8_2, hcz8_3, hcz8_4, hcz8_5, hcz8_6, hcz8_7⟩ := zd8 BK119; obtain ⟨hfz8_0, hfz8_1, hfz8_2, hfz8_3, hfz8_4, hfz8_5, hfz8_6, hfz8_7⟩ := zn8 BK119) | ((with_reducible refine gate_callee (f := 27) rfl ?_); refine zgl (N := some 10) Try.func27 #[.slice A0 l0.length c0, .string a1_1] ?_; (with_reducible refine (spec_l32Zone.calls k _ _ l0 a1_1 t120 _ ?side1 ?side2 A3.out).mono ?_); (case side1 => exact zC HR0 HB); (case side2 => exact HC0.out); rintro e w' ⟨rfl, ⟨nd, rfl⟩⟩; refine ⟨_, rfl, ?_⟩) | ((with_reducible refine gate_callee (f := 27) rfl ?_); refine zgl (N := some 15) Try.func27 #[.slice A0 l0.length c0, .string a1_2] ?_; (with_reducible refine (spec_l32Zone.calls k _ _ l0 a1_2 t121 _ ?side1 ?side2 A4.out).mono ?_); (case side1 => repeat (first | exact (Kd.C_below HR0.out (zs1 HB GE119)) | (with_reducible refine Kd.C_alloc ?_ _) | (with_reducible refine Kd.C_drewN ?_ _) | (with_reducible refine Kd.C_drew ?_))); (case side2 => exact HC0.out); rintro e w' ⟨rfl, ⟨nd, rfl⟩⟩; refine ⟨_, rfl, ?_⟩))
   go_ret
   exact ⟨ze, zs1 HB GE119⟩
  rw [if_neg c6] at H
  have c6b0 : decide (0 ≤ t120) = false := decide_eq_false c6
  clear c6
  obtain rfl := Option.some.inj H
  go_enter Try.func16, Try.ntmps16
  go_wp2_with (first | ((with_reducible refine gate_dst (N := 3) rfl ?_); refine zbx 3 #[.int .i64 a1_0, .string a1_1, .string a1_2, .string a1_3, .int .i64 a1_4, .int .i64 a1_5, .int .i64 a1_6, .slice A1_7 l1_7.length c1_7] 33 ?_; intro gb119 hg w9 hbox hb; have BK119 := zA hbox; have GW119 := zgs hg (zs0 HB); have GE119 := zgs hg (zs0 HB); replace HB := zE (zs0 HB) hb; clear hb hbox hg; obtain ⟨hcz10_0, hcz10_1, hcz10_2, hcz10_3, hcz10_4, hcz10_5, hcz10_6, hcz10_7⟩ := zd8 BK119; obtain ⟨hfz10_0, hfz10_1, hfz10_2, hfz10_3, hfz10_4, hfz10_5, hfz10_6, hfz10_7⟩ := zn8 BK119) | ((with_reducible refine gate_callee (f := 27) rfl ?_); refine zgl (N := some 10) Try.func27 #[.slice A0 l0.length c0, .string a1_1] ?_; (with_reducible refine (spec_l32Zone.calls k _ _ l0 a1_1 t120 _ ?side1 ?side2 A3.out).mono ?_); (case side1 => exact zC HR0 HB); (case side2 => exact HC0.out); rintro e w' ⟨rfl, ⟨nd, rfl⟩⟩; refine ⟨_, rfl, ?_⟩) | ((with_reducible refine gate_callee (f := 27) rfl ?_); refine zgl (N := some 15) Try.func27 #[.slice A0 l0.length c0, .string a1_2] ?_; (with_reducible refine (spec_l32Zone.calls k _ _ l0 a1_2 t121 _ ?side1 ?side2 A4.out).mono ?_); (case side1 => repeat (first | exact (Kd.C_below HR0.out (zs1 HB GE119)) | (with_reducible refine Kd.C_alloc ?_ _) | (with_reducible refine Kd.C_drewN ?_ _) | (with_reducible refine Kd.C_drew ?_))); (case side2 => exact HC0.out); rintro e w' ⟨rfl, ⟨nd, rfl⟩⟩; refine ⟨_, rfl, ?_⟩))
  go_ret
  exact ⟨ze, zs1 HB GE119⟩
 rw [if_neg c5] at H
 have c5b0 : (a1_0 == 7) = false := beq_eq_false_iff_ne.mpr c5
 have c5b1 : (a1_0 != 7) = true := bne_iff_ne.mpr c5
 by_cases c11 : a1_0 = 8
 ·rw [if_pos c11] at H
  have c11b0 : (a1_0 == 8) = true := beq_iff_eq.mpr c11
  have c11b1 : (a1_0 != 8) = false := bne_eq_false_iff_eq.mpr c11
  clear c11
  by_cases c12 : a1_1.toList = ([] : List UInt8)
  rotate_left
  ·rw [if_neg c12] at H
   have c12b0 : (a1_1.toList == ([] : List UInt8)) = false := beq_eq_false_iff_ne.mpr c12
   have c12b1 : (a1_1.toList != ([] : List UInt8)) = true := bne_iff_ne.mpr c12
   obtain rfl := Option.some.inj H
   go_enter Try.func16, Try.ntmps16
   go_wp2_with (first | ((with_reducible refine gate_dst (N := 3) rfl ?_); refine zbx 3 #[.int .i64 a1_0, .string a1_1, .string a1_2, .string a1_3, .int .i64 a1_4, .int .i64 a1_5, .int .i64 a1_6, .slice A1_7 l1_7.length c1_7] 33 ?_; intro gb119 hg w15 hbox hb; have BK119 := zA hbox; have GW119 := zgs hg (zs0 HB); have GE119 := zgs hg (zs0 HB); replace HB := zE (zs0 HB) hb; clear hb hbox hg; obtain ⟨hcz16_0, hcz16_1, hcz16_2, hcz16_3, hcz16_4, hcz16_5, hcz16_6, hcz16_7⟩ := zd8 BK119; obtain ⟨hfz16_0, hfz16_1, hfz16_2, hfz16_3, hfz16_4, hfz16_5, hfz16_6, hfz16_7⟩ := zn8 BK119) | ((with_reducible refine gate_callee (f := 27) rfl ?_); refine zgl (N := some 10) Try.func27 #[.slice A0 l0.length c0, .string a1_1] ?_; (with_reducible refine (spec_l32Zone.calls k _ _ l0 a1_1 t120 _ ?side1 ?side2 A3.out).mono ?_); (case side1 => exact zC HR0 HB); (case side2 => exact HC0.out); rintro e w' ⟨rfl, ⟨nd, rfl⟩⟩; refine ⟨_, rfl, ?_⟩) | ((with_reducible refine gate_callee (f := 27) rfl ?_); refine zgl (N := some 15) Try.func27 #[.slice A0 l0.length c0, .string a1_2] ?_; (with_reducible refine (spec_l32Zone.calls k _ _ l0 a1_2 t121 _ ?side1 ?side2 A4.out).mono ?_); (case side1 => repeat (first | exact (Kd.C_below HR0.out (zs1 HB GE119)) | (with_reducible refine Kd.C_alloc ?_ _) | (with_reducible refine Kd.C_drewN ?_ _) | (with_reducible refine Kd.C_drew ?_))); (case side2 => exact HC0.out); rintro e w' ⟨rfl, ⟨nd, rfl⟩⟩; refine ⟨_, rfl, ?_⟩))
   go_ret
   exact ⟨ze, zs1 HB GE119⟩
  rw [if_pos c12] at H
  have c12b0 : (a1_1.toList == ([] : List UInt8)) = true := beq_iff_eq.mpr c12
  have c12b1 : (a1_1.toList != ([] : List UInt8)) = false := bne_eq_false_iff_eq.mpr c12
  clear c12
  obtain rfl := Option.some.inj H
  go_enter Try.func16, Try.ntmps16
  go_wp2_with (first | ((with_reducible refine gate_dst (N := 3) rfl ?_); refine zbx 3 #[.int .i64 a1_0, .string a1_1, .string a1_2, .string a1_3, .int .i64 a1_4, .int .i64 a1_5, .int .i64 a1_6, .slice A1_7 l1_7.length c1_7] 33 ?_; intro gb119 hg w13 hbox hb; have BK119 := zA hbox; have GW119 := zgs hg (zs0 HB); have GE119 := zgs hg (zs0 HB); replace HB := zE (zs0 HB) hb; clear hb hbox hg; obtain ⟨hcz14_0, hcz14_1, hcz14_2, hcz14_3, hcz14_4, hcz14_5, hcz14_6, hcz14_7⟩ := zd8 BK119; obtain ⟨hfz14_0, hfz14_1, hfz14_2, hfz14_3, hfz14_4, hfz14_5, hfz14_6, hfz14_7⟩ := zn8 BK119) | ((with_reducible refine gate_callee (f := 27) rfl ?_); refine zgl (N := some 10) Try.func27 #[.slice A0 l0.length c0, .string a1_1] ?_; (with_reducible refine (spec_l32Zone.calls k _ _ l0 a1_1 t120 _ ?side1 ?side2 A3.out).mono ?_); (case side1 => exact zC HR0 HB); (case side2 => exact HC0.out); rintro e w' ⟨rfl, ⟨nd, rfl⟩⟩; refine ⟨_, rfl, ?_⟩) | ((with_reducible refine gate_callee (f := 27) rfl ?_); refine zgl (N := some 15) Try.func27 #[.slice A0 l0.length c0, .string a1_2] ?_; (with_reducible refine (spec_l32Zone.calls k _ _ l0 a1_2 t121 _ ?side1 ?side2 A4.out).mono ?_); (case side1 => repeat (first | exact (Kd.C_below HR0.out (zs1 HB GE119)) | (with_reducible refine Kd.C_alloc ?_ _) | (with_reducible refine Kd.C_drewN ?_ _) | (with_reducible refine Kd.C_drew ?_))); (case side2 => exact HC0.out); rintro e w' ⟨rfl, ⟨nd, rfl⟩⟩; refine ⟨_, rfl, ?_⟩))
  go_ret
  exact ⟨ze, zs1 HB GE119⟩
 rw [if_neg c11] at H
 have c11b0 : (a1_0 == 8) = false := beq_eq_false_iff_ne.mpr c11
 have c11b1 : (a1_0 != 8) = true := bne_iff_ne.mpr c11
 by_cases c17 : a1_0 = 9
 rotate_left
 ·rw [if_neg c17] at H
  have c17b0 : (a1_0 == 9) = false := beq_eq_false_iff_ne.mpr c17
  have c17b1 : (a1_0 != 9) = true := bne_iff_ne.mpr c17
  by_cases c23 : t120 ≥ 0
  ·rw [if_pos c23] at H
   have c23b0 : decide (0 ≤ t120) = true := decide_eq_true c23
   clear c23
   obtain rfl := Option.some.inj H
   go_enter Try.func16, Try.ntmps16
   go_wp2_with (first | ((with_reducible refine gate_dst (N := 3) rfl ?_); refine zbx 3 #[.int .i64 a1_0, .string a1_1, .string a1_2, .string a1_3, .int .i64 a1_4, .int .i64 a1_5, .int .i64 a1_6, .slice A1_7 l1_7.length c1_7] 33 ?_; intro gb119 hg w24 hbox hb; have BK119 := zA hbox; have GW119 := zgs hg (zs0 HB); have GE119 := zgs hg (zs0 HB); replace HB := zE (zs0 HB) hb; clear hb hbox hg; obtain ⟨hcz25_0, hcz25_1, hcz25_2, hcz25_3, hcz25_4, hcz25_5, hcz25_6, hcz25_7⟩ := zd8 BK119; obtain ⟨hfz25_0, hfz25_1, hfz25_2, hfz25_3, hfz25_4, hfz25_5, hfz25_6, hfz25_7⟩ := zn8 BK119) | ((with_reducible refine gate_callee (f := 27) rfl ?_); refine zgl (N := some 10) Try.func27 #[.slice A0 l0.length c0, .string a1_1] ?_; (with_reducible refine (spec_l32Zone.calls k _ _ l0 a1_1 t120 _ ?side1 ?side2 A3.out).mono ?_); (case side1 => exact zC HR0 HB); (case side2 => exact HC0.out); rintro e w' ⟨rfl, ⟨nd, rfl⟩⟩; refine ⟨_, rfl, ?_⟩) | ((with_reducible refine gate_callee (f := 27) rfl ?_); refine zgl (N := some 15) Try.func27 #[.slice A0 l0.length c0, .string a1_2] ?_; (with_reducible refine (spec_l32Zone.calls k _ _ l0 a1_2 t121 _ ?side1 ?side2 A4.out).mono ?_); (case side1 => repeat (first | exact (Kd.C_below HR0.out (zs1 HB GE119)) | (with_reducible refine Kd.C_alloc ?_ _) | (with_reducible refine Kd.C_drewN ?_ _) | (with_reducible refine Kd.C_drew ?_))); (case side2 => exact HC0.out); rintro e w' ⟨rfl, ⟨nd, rfl⟩⟩; refine ⟨_, rfl, ?_⟩))
   go_ret
   exact ⟨ze, zs1 HB GE119⟩
  rw [if_neg c23] at H
  have c23b0 : decide (0 ≤ t120) = false := decide_eq_false c23
  clear c23
  obtain rfl := Option.some.inj H
  go_enter Try.func16, Try.ntmps16
  go_wp2_with (first | ((with_reducible refine gate_dst (N := 3) rfl ?_); refine zbx 3 #[.int .i64 a1_0, .string a1_1, .string a1_2, .string a1_3, .int .i64 a1_4, .int .i64 a1_5, .int .i64 a1_6, .slice A1_7 l1_7.length c1_7] 33 ?_; intro gb119 hg w26 hbox hb; have BK119 := zA hbox; have GW119 := zgs hg (zs0 HB); have GE119 := zgs hg (zs0 HB); replace HB := zE (zs0 HB) hb; clear hb hbox hg; obtain ⟨hcz27_0, hcz27_1, hcz27_2, hcz27_3, hcz27_4, hcz27_5, hcz27_6, hcz27_7⟩ := zd8 BK119; obtain ⟨hfz27_0, hfz27_1, hfz27_2, hfz27_3, hfz27_4, hfz27_5, hfz27_6, hfz27_7⟩ := zn8 BK119) | ((with_reducible refine gate_callee (f := 27) rfl ?_); refine zgl (N := some 10) Try.func27 #[.slice A0 l0.length c0, .string a1_1] ?_; (with_reducible refine (spec_l32Zone.calls k _ _ l0 a1_1 t120 _ ?side1 ?side2 A3.out).mono ?_); (case side1 => exact zC HR0 HB); (case side2 => exact HC0.out); rintro e w' ⟨rfl, ⟨nd, rfl⟩⟩; refine ⟨_, rfl, ?_⟩) | ((with_reducible refine gate_callee (f := 27) rfl ?_); refine zgl (N := some 15) Try.func27 #[.slice A0 l0.length c0, .string a1_2] ?_; (with_reducible refine (spec_l32Zone.calls k _ _ l0 a1_2 t121 _ ?side1 ?side2 A4.out).mono ?_); (case side1 => repeat (first | exact (Kd.C_below HR0.out (zs1 HB GE119)) | (with_reducible refine Kd.C_alloc ?_ _) | (with_reducible refine Kd.C_drewN ?_ _) | (with_reducible refine Kd.C_drew ?_))); (case side2 => exact HC0.out); rintro e w' ⟨rfl, ⟨nd, rfl⟩⟩; refine ⟨_, rfl, ?_⟩))
  go_ret
  exact ⟨ze, zs1 HB GE119⟩
 rw [if_pos c17] at H
 have c17b0 : (a1_0 == 9) = true := beq_iff_eq.mpr c17
 have c17b1 : (a1_0 != 9) = false := bne_eq_false_iff_eq.mpr c17
 clear c17
 by_cases c18 : a1_1.toList = ([] : List UInt8)
 rotate_left
 ·rw [if_neg c18] at H
  have c18b0 : (a1_1.toList == ([] : List UInt8)) = false := beq_eq_false_iff_ne.mpr c18
  have c18b1 : (a1_1.toList != ([] : List UInt8)) = true := bne_iff_ne.mpr c18
  obtain rfl := Option.some.inj H
  go_enter Try.func16, Try.ntmps16
  go_wp2_with (first | ((with_reducible refine gate_dst (N := 3) rfl ?_); refine zbx 3 #[.int .i64 a1_0, .string a1_1, .string a1_2, .string a1_3, .int .i64 a1_4, .int .i64 a1_5, .int .i64 a1_6, .slice A1_7 l1_7.length c1_7] 33 ?_; intro gb119 hg w21 hbox hb; have BK119 := zA hbox; have GW119 := zgs hg (zs0 HB); have GE119 := zgs hg (zs0 HB); replace HB := zE (zs0 HB) hb; clear hb hbox hg; obtain ⟨hcz22_0, hcz22_1, hcz22_2, hcz22_3, hcz22_4, hcz22_5, hcz22_6, hcz22_7⟩ := zd8 BK119; obtain ⟨hfz22_0, hfz22_1, hfz22_2, hfz22_3, hfz22_4, hfz22_5, hfz22_6, hfz22_7⟩ := zn8 BK119) | ((with_reducible refine gate_callee (f := 27) rfl ?_); refine zgl (N := some 10) Try.func27 #[.slice A0 l0.length c0, .string a1_1] ?_; (with_reducible refine (spec_l32Zone.calls k _ _ l0 a1_1 t120 _ ?side1 ?side2 A3.out).mono ?_); (case side1 => exact zC HR0 HB); (case side2 => exact HC0.out); rintro e w' ⟨rfl, ⟨nd, rfl⟩⟩; refine ⟨_, rfl, ?_⟩) | ((with_reducible refine gate_callee (f := 27) rfl ?_); refine zgl (N := some 15) Try.func27 #[.slice A0 l0.length c0, .string a1_2] ?_; (with_reducible refine (spec_l32Zone.calls k _ _ l0 a1_2 t121 _ ?side1 ?side2 A4.out).mono ?_); (case side1 => repeat (first | exact (Kd.C_below HR0.out (zs1 HB GE119)) | (with_reducible refine Kd.C_alloc ?_ _) | (with_reducible refine Kd.C_drewN ?_ _) | (with_reducible refine Kd.C_drew ?_))); (case side2 => exact HC0.out); rintro e w' ⟨rfl, ⟨nd, rfl⟩⟩; refine ⟨_, rfl, ?_⟩))
  go_ret
  exact ⟨ze, zs1 HB GE119⟩
 rw [if_pos c18] at H
 have c18b0 : (a1_1.toList == ([] : List UInt8)) = true := beq_iff_eq.mpr c18
 have c18b1 : (a1_1.toList != ([] : List UInt8)) = false := bne_eq_false_iff_eq.mpr c18
 clear c18
 obtain rfl := Option.some.inj H
 go_enter Try.func16, Try.ntmps16
 go_wp2_with (first | ((with_reducible refine gate_dst (N := 3) rfl ?_); refine zbx 3 #[.int .i64 a1_0, .string a1_1, .string a1_2, .string a1_3, .int .i64 a1_4, .int .i64 a1_5, .int .i64 a1_6, .slice A1_7 l1_7.length c1_7] 33 ?_; intro gb119 hg w19 hbox hb; have BK119 := zA hbox; have GW119 := zgs hg (zs0 HB); have GE119 := zgs hg (zs0 HB); replace HB := zE (zs0 HB) hb; clear hb hbox hg; obtain ⟨hcz20_0, hcz20_1, hcz20_2, hcz20_3, hcz20_4, hcz20_5, hcz20_6, hcz20_7⟩ := zd8 BK119; obtain ⟨hfz20_0, hfz20_1, hfz20_2, hfz20_3, hfz20_4, hfz20_5, hfz20_6, hfz20_7⟩ := zn8 BK119) | ((with_reducible refine gate_callee (f := 27) rfl ?_); refine zgl (N := some 10) Try.func27 #[.slice A0 l0.length c0, .string a1_1] ?_; (with_reducible refine (spec_l32Zone.calls k _ _ l0 a1_1 t120 _ ?side1 ?side2 A3.out).mono ?_); (case side1 => exact zC HR0 HB); (case side2 => exact HC0.out); rintro e w' ⟨rfl, ⟨nd, rfl⟩⟩; refine ⟨_, rfl, ?_⟩) | ((with_reducible refine gate_callee (f := 27) rfl ?_); refine zgl (N := some 15) Try.func27 #[.slice A0 l0.length c0, .string a1_2] ?_; (with_reducible refine (spec_l32Zone.calls k _ _ l0 a1_2 t121 _ ?side1 ?side2 A4.out).mono ?_); (case side1 => repeat (first | exact (Kd.C_below HR0.out (zs1 HB GE119)) | (with_reducible refine Kd.C_alloc ?_ _) | (with_reducible refine Kd.C_drewN ?_ _) | (with_reducible refine Kd.C_drew ?_))); (case side2 => exact HC0.out); rintro e w' ⟨rfl, ⟨nd, rfl⟩⟩; refine ⟨_, rfl, ?_⟩))
 go_ret
 exact ⟨ze, zs1 HB GE119⟩
def spec_l32LastOk.f (a0_0 : Int) (a0_1 : ByteArray) (a0_2 : ByteArray) (a0_3 : ByteArray) (a0_4 : Int) (a0_5 : Int) (a0_6 : Int) (l0_7 : List (S56)) : Option (Bool) := if a0_0 = 6 then (if a0_4 = 0 then (some (a0_5 == 0)) else (some false)) else (if a0_0 = 4 then ((spec_l31In.f a0_5 1 1000000).bind fun t123 => (if t123 = true then (if a0_4 ≤ a0_5 then (if a0_4 > 0 then (some true) else (some (a0_0 == 4))) else (some false)) else (some false))) else (if a0_0 = 5 then ((spec_l31In.f a0_5 1 1000000).bind fun t124 => (if t124 = true then (if a0_4 ≤ a0_5 then (if a0_4 > 0 then (some true) else (some (a0_0 == 4))) else (some false)) else (some false))) else (if a0_4 > 0 then (some (a0_5 == 0)) else (some false))))
set_option maxHeartbeats 8000000 in
set_option maxRecDepth 100000 in
theorem spec_l32LastOk.calls (a0_0 : Int) (a0_1 : ByteArray) (a0_2 : ByteArray) (a0_3 : ByteArray) (a0_4 : Int) (a0_5 : Int) (a0_6 : Int) (A0_7 : Option Addr) (c0_7 : Nat) (l0_7 : List (S56)) (r : Bool) (w : World) (hr0_7 : Kd.C k56 w A0_7 l0_7.length l0_7) (hc0_7 : l0_7.length ≤ c0_7) (h : spec_l32LastOk.f a0_0 a0_1 a0_2 a0_3 a0_4 a0_5 a0_6 l0_7 = some r) :
 Calls Try.prog 18 #[.agg #[.int .i64 a0_0, .string a0_1, .string a0_2, .string a0_3, .int .i64 a0_4, .int .i64 a0_5, .int .i64 a0_6, .slice A0_7 l0_7.length c0_7]] w fun e w' => e = .returned (.bool r) ∧ Below w.heap.size w w' := by
 have hu33 := Try.underlying33
 have HR0_7 := Aside0.mk hr0_7
 have HC0_7 := Aside0.mk hc0_7
 clear hr0_7 hc0_7
 have HB := Aside0.mk (Below.refl w.heap.size w)
 have H : (if a0_0 = 6 then (if a0_4 = 0 then (some (a0_5 == 0)) else (some false)) else (if a0_0 = 4 then ((spec_l31In.f a0_5 1 1000000).bind fun t123 => (if t123 = true then (if a0_4 ≤ a0_5 then (if a0_4 > 0 then (some true) else (some (a0_0 == 4))) else (some false)) else (some false))) else (if a0_0 = 5 then ((spec_l31In.f a0_5 1 1000000).bind fun t124 => (if t124 = true then (if a0_4 ≤ a0_5 then (if a0_4 > 0 then (some true) else (some (a0_0 == 4))) else (some false)) else (some false))) else (if a0_4 > 0 then (some (a0_5 == 0)) else (some false))))) = some r := h
 clear h
 by_cases c2 : a0_0 = 6
 ·rw [if_pos c2] at H
  have c2b0 : (a0_0 == 6) = true := beq_iff_eq.mpr c2
  have c2b1 : (a0_0 != 6) = false := bne_eq_false_iff_eq.mpr c2
  clear c2
  by_cases c3 : a0_4 = 0
  rotate_left
  ·rw [if_neg c3] at H
   have c3b0 : (a0_4 == 0) = false := beq_eq_false_iff_ne.mpr c3
   have c3b1 : (a0_4 != 0) = true := bne_iff_ne.mpr c3
   obtain rfl := Option.some.inj H
   go_enter Try.func18, Try.ntmps18
   go_wp2_with (first | ((with_reducible refine gate_dst (N := 1) rfl ?_); refine zbx 1 #[.int .i64 a0_0, .string a0_1, .string a0_2, .string a0_3, .int .i64 a0_4, .int .i64 a0_5, .int .i64 a0_6, .slice A0_7 l0_7.length c0_7] 33 ?_; intro gb122 hg w6 hbox hb; have BK122 := zA hbox; have GW122 := zgs hg (zs0 HB); have GE122 := zgs hg (zs0 HB); replace HB := zE (zs0 HB) hb; clear hb hbox hg; obtain ⟨hcz7_0, hcz7_1, hcz7_2, hcz7_3, hcz7_4, hcz7_5, hcz7_6, hcz7_7⟩ := zd8 BK122; obtain ⟨hfz7_0, hfz7_1, hfz7_2, hfz7_3, hfz7_4, hfz7_5, hfz7_6, hfz7_7⟩ := zn8 BK122))
   go_ret
   exact ⟨ze, zs1 HB GE122⟩
  rw [if_pos c3] at H
  have c3b0 : (a0_4 == 0) = true := beq_iff_eq.mpr c3
  have c3b1 : (a0_4 != 0) = false := bne_eq_false_iff_eq.mpr c3
  clear c3
  obtain rfl := Option.some.inj H
  go_enter Try.func18, Try.ntmps18
  go_wp2_with (first | ((with_reducible refine gate_dst (N := 1) rfl ?_); refine zbx 1 #[.int .i64 a0_0, .string a0_1, .string a0_2, .string a0_3, .int .i64 a0_4, .int .i64 a0_5, .int .i64 a0_6, .slice A0_7 l0_7.length c0_7] 33 ?_; intro gb122 hg w4 hbox hb; have BK122 := zA hbox; have GW122 := zgs hg (zs0 HB); have GE122 := zgs hg (zs0 HB); replace HB := zE (zs0 HB) hb; clear hb hbox hg; obtain ⟨hcz5_0, hcz5_1, hcz5_2, hcz5_3, hcz5_4, hcz5_5, hcz5_6, hcz5_7⟩ := zd8 BK122; obtain ⟨hfz5_0, hfz5_1, hfz5_2, hfz5_3, hfz5_4, hfz5_5, hfz5_6, hfz5_7⟩ := zn8 BK122))
  go_ret
  exact ⟨ze, zs1 HB GE122⟩
 rw [if_neg c2] at H
 have c2b0 : (a0_0 == 6) = false := beq_eq_false_iff_ne.mpr c2
 have c2b1 : (a0_0 != 6) = true := bne_iff_ne.mpr c2
 by_cases c8 : a0_0 = 4
 ·rw [if_pos c8] at H
  have c8b0 : (a0_0 == 4) = true := beq_iff_eq.mpr c8
  have c8b1 : (a0_0 != 4) = false := bne_eq_false_iff_eq.mpr c8
  clear c8
  replace H := zbd H; obtain ⟨t123, A9, H⟩ := H
  by_cases c10 : t123 = true
  rotate_left
  ·replace c10 := Bool.eq_false_iff.mpr c10
   subst c10
   have H1 : (some false) = some r := by rw [if_neg (show ¬ (false = true) by decide)] at H; exact H
   clear H
   have H := H1
   clear H1
   obtain rfl := Option.some.inj H
   go_enter Try.func18, Try.ntmps18
   go_wp2_with (first | ((with_reducible refine gate_dst (N := 1) rfl ?_); refine zbx 1 #[.int .i64 a0_0, .string a0_1, .string a0_2, .string a0_3, .int .i64 a0_4, .int .i64 a0_5, .int .i64 a0_6, .slice A0_7 l0_7.length c0_7] 33 ?_; intro gb122 hg w19 hbox hb; have BK122 := zA hbox; have GW122 := zgs hg (zs0 HB); have GE122 := zgs hg (zs0 HB); replace HB := zE (zs0 HB) hb; clear hb hbox hg; obtain ⟨hcz20_0, hcz20_1, hcz20_2, hcz20_3, hcz20_4, hcz20_5, hcz20_6, hcz20_7⟩ := zd8 BK122; obtain ⟨hfz20_0, hfz20_1, hfz20_2, hfz20_3, hfz20_4, hfz20_5, hfz20_6, hfz20_7⟩ := zn8 BK122) | ((with_reducible refine gate_callee (f := 15) rfl ?_); refine zgl (N := some 20) Try.func15 #[.int .i64 a0_5, .int .i64 1, .int .i64 1000000] ?_; (with_reducible refine (spec_l31In.calls a0_5 1 1000000 false _ A9.out).mono ?_); rintro e w' ⟨rfl, ⟨nd, rfl⟩⟩; refine ⟨_, rfl, ?_⟩))
   go_ret
   exact ⟨ze, zs1 HB GE122⟩
  subst c10
  have H1 : (if a0_4 ≤ a0_5 then (if a0_4 > 0 then (some true) else (some (a0_0 == 4))) else (some false)) = some r := by rw [if_pos rfl] at H; exact H
  clear H
  have H := H1
  clear H1
  by_cases c11 : a0_4 ≤ a0_5
  rotate_left
  ·rw [if_neg c11] at H
   have c11b0 : decide (a0_4 ≤ a0_5) = false := decide_eq_false c11
   clear c11
   obtain rfl := Option.some.inj H
   go_enter Try.func18, Try.ntmps18
   go_wp2_with (first | ((with_reducible refine gate_dst (N := 1) rfl ?_); refine zbx 1 #[.int .i64 a0_0, .string a0_1, .string a0_2, .string a0_3, .int .i64 a0_4, .int .i64 a0_5, .int .i64 a0_6, .slice A0_7 l0_7.length c0_7] 33 ?_; intro gb122 hg w17 hbox hb; have BK122 := zA hbox; have GW122 := zgs hg (zs0 HB); have GE122 := zgs hg (zs0 HB); replace HB := zE (zs0 HB) hb; clear hb hbox hg; obtain ⟨hcz18_0, hcz18_1, hcz18_2, hcz18_3, hcz18_4, hcz18_5, hcz18_6, hcz18_7⟩ := zd8 BK122; obtain ⟨hfz18_0, hfz18_1, hfz18_2, hfz18_3, hfz18_4, hfz18_5, hfz18_6, hfz18_7⟩ := zn8 BK122) | ((with_reducible refine gate_callee (f := 15) rfl ?_); refine zgl (N := some 20) Try.func15 #[.int .i64 a0_5, .int .i64 1, .int .i64 1000000] ?_; (with_reducible refine (spec_l31In.calls a0_5 1 1000000 true _ A9.out).mono ?_); rintro e w' ⟨rfl, ⟨nd, rfl⟩⟩; refine ⟨_, rfl, ?_⟩))
   go_ret
   exact ⟨ze, zs1 HB GE122⟩
  rw [if_pos c11] at H
  have c11b0 : decide (a0_4 ≤ a0_5) = true := decide_eq_true c11
  clear c11
  by_cases c12 : a0_4 > 0
  ·rw [if_pos c12] at H
   have c12b0 : decide (0 < a0_4) = true := decide_eq_true c12
   clear c12
   obtain rfl := Option.some.inj H
   go_enter Try.func18, Try.ntmps18
   go_wp2_with (first | ((with_reducible refine gate_dst (N := 1) rfl ?_); refine zbx 1 #[.int .i64 a0_0, .string a0_1, .string a0_2, .string a0_3, .int .i64 a0_4, .int .i64 a0_5, .int .i64 a0_6, .slice A0_7 l0_7.length c0_7] 33 ?_; intro gb122 hg w13 hbox hb; have BK122 := zA hbox; have GW122 := zgs hg (zs0 HB); have GE122 := zgs hg (zs0 HB); replace HB := zE (zs0 HB) hb; clear hb hbox hg; obtain ⟨hcz14_0, hcz14_1, hcz14_2, hcz14_3, hcz14_4, hcz14_5, hcz14_6, hcz14_7⟩ := zd8 BK122; obtain ⟨hfz14_0, hfz14_1, hfz14_2, hfz14_3, hfz14_4, hfz14_5, hfz14_6, hfz14_7⟩ := zn8 BK122) | ((with_reducible refine gate_callee (f := 15) rfl ?_); refine zgl (N := some 20) Try.func15 #[.int .i64 a0_5, .int .i64 1, .int .i64 1000000] ?_; (with_reducible refine (spec_l31In.calls a0_5 1 1000000 true _ A9.out).mono ?_); rintro e w' ⟨rfl, ⟨nd, rfl⟩⟩; refine ⟨_, rfl, ?_⟩))
   go_ret
   exact ⟨ze, zs1 HB GE122⟩
  rw [if_neg c12] at H
  have c12b0 : decide (0 < a0_4) = false := decide_eq_false c12
  clear c12
  obtain rfl := Option.some.inj H
  go_enter Try.func18, Try.ntmps18
  go_wp2_with (first | ((with_reducible refine gate_dst (N := 1) rfl ?_); refine zbx 1 #[.int .i64 a0_0, .string a0_1, .string a0_2, .string a0_3, .int .i64 a0_4, .int .i64 a0_5, .int .i64 a0_6, .slice A0_7 l0_7.length c0_7] 33 ?_; intro gb122 hg w15 hbox hb; have BK122 := zA hbox; have GW122 := zgs hg (zs0 HB); have GE122 := zgs hg (zs0 HB); replace HB := zE (zs0 HB) hb; clear hb hbox hg; obtain ⟨hcz16_0, hcz16_1, hcz16_2, hcz16_3, hcz16_4, hcz16_5, hcz16_6, hcz16_7⟩ := zd8 BK122; obtain ⟨hfz16_0, hfz16_1, hfz16_2, hfz16_3, hfz16_4, hfz16_5, hfz16_6, hfz16_7⟩ := zn8 BK122) | ((with_reducible refine gate_callee (f := 15) rfl ?_); refine zgl (N := some 20) Try.func15 #[.int .i64 a0_5, .int .i64 1, .int .i64 1000000] ?_; (with_reducible refine (spec_l31In.calls a0_5 1 1000000 true _ A9.out).mono ?_); rintro e w' ⟨rfl, ⟨nd, rfl⟩⟩; refine ⟨_, rfl, ?_⟩))
  go_ret
  exact ⟨ze, zs1 HB GE122⟩
 rw [if_neg c8] at H
 have c8b0 : (a0_0 == 4) = false := beq_eq_false_iff_ne.mpr c8
 have c8b1 : (a0_0 != 4) = true := bne_iff_ne.mpr c8
 by_cases c21 : a0_0 = 5
 rotate_left
 ·rw [if_neg c21] at H
  have c21b0 : (a0_0 == 5) = false := beq_eq_false_iff_ne.mpr c21
  have c21b1 : (a0_0 != 5) = true := bne_iff_ne.mpr c21
  by_cases c34 : a0_4 > 0
  ·rw [if_pos c34] at H
   have c34b0 : decide (0 < a0_4) = true := decide_eq_true c34
   clear c34
   obtain rfl := Option.some.inj H
   go_enter Try.func18, Try.ntmps18
   go_wp2_with (first | ((with_reducible refine gate_dst (N := 1) rfl ?_); refine zbx 1 #[.int .i64 a0_0, .string a0_1, .string a0_2, .string a0_3, .int .i64 a0_4, .int .i64 a0_5, .int .i64 a0_6, .slice A0_7 l0_7.length c0_7] 33 ?_; intro gb122 hg w35 hbox hb; have BK122 := zA hbox; have GW122 := zgs hg (zs0 HB); have GE122 := zgs hg (zs0 HB); replace HB := zE (zs0 HB) hb; clear hb hbox hg; obtain ⟨hcz36_0, hcz36_1, hcz36_2, hcz36_3, hcz36_4, hcz36_5, hcz36_6, hcz36_7⟩ := zd8 BK122; obtain ⟨hfz36_0, hfz36_1, hfz36_2, hfz36_3, hfz36_4, hfz36_5, hfz36_6, hfz36_7⟩ := zn8 BK122))
   go_ret
   exact ⟨ze, zs1 HB GE122⟩
  rw [if_neg c34] at H
  have c34b0 : decide (0 < a0_4) = false := decide_eq_false c34
  clear c34
  obtain rfl := Option.some.inj H
  go_enter Try.func18, Try.ntmps18
  go_wp2_with (first | ((with_reducible refine gate_dst (N := 1) rfl ?_); refine zbx 1 #[.int .i64 a0_0, .string a0_1, .string a0_2, .string a0_3, .int .i64 a0_4, .int .i64 a0_5, .int .i64 a0_6, .slice A0_7 l0_7.length c0_7] 33 ?_; intro gb122 hg w37 hbox hb; have BK122 := zA hbox; have GW122 := zgs hg (zs0 HB); have GE122 := zgs hg (zs0 HB); replace HB := zE (zs0 HB) hb; clear hb hbox hg; obtain ⟨hcz38_0, hcz38_1, hcz38_2, hcz38_3, hcz38_4, hcz38_5, hcz38_6, hcz38_7⟩ := zd8 BK122; obtain ⟨hfz38_0, hfz38_1, hfz38_2, hfz38_3, hfz38_4, hfz38_5, hfz38_6, hfz38_7⟩ := zn8 BK122))
  go_ret
  exact ⟨ze, zs1 HB GE122⟩
 rw [if_pos c21] at H
 have c21b0 : (a0_0 == 5) = true := beq_iff_eq.mpr c21
 have c21b1 : (a0_0 != 5) = false := bne_eq_false_iff_eq.mpr c21
 clear c21
 replace H := zbd H; obtain ⟨t124, A22, H⟩ := H
 by_cases c23 : t124 = true
 rotate_left
 ·replace c23 := Bool.eq_false_iff.mpr c23
  subst c23
  have H1 : (some false) = some r := by rw [if_neg (show ¬ (false = true) by decide)] at H; exact H
  clear H
  have H := H1
  clear H1
  obtain rfl := Option.some.inj H
  go_enter Try.func18, Try.ntmps18
  go_wp2_with (first | ((with_reducible refine gate_dst (N := 1) rfl ?_); refine zbx 1 #[.int .i64 a0_0, .string a0_1, .string a0_2, .string a0_3, .int .i64 a0_4, .int .i64 a0_5, .int .i64 a0_6, .slice A0_7 l0_7.length c0_7] 33 ?_; intro gb122 hg w32 hbox hb; have BK122 := zA hbox; have GW122 := zgs hg (zs0 HB); have GE122 := zgs hg (zs0 HB); replace HB := zE (zs0 HB) hb; clear hb hbox hg; obtain ⟨hcz33_0, hcz33_1, hcz33_2, hcz33_3, hcz33_4, hcz33_5, hcz33_6, hcz33_7⟩ := zd8 BK122; obtain ⟨hfz33_0, hfz33_1, hfz33_2, hfz33_3, hfz33_4, hfz33_5, hfz33_6, hfz33_7⟩ := zn8 BK122) | ((with_reducible refine gate_callee (f := 15) rfl ?_); refine zgl (N := some 20) Try.func15 #[.int .i64 a0_5, .int .i64 1, .int .i64 1000000] ?_; (with_reducible refine (spec_l31In.calls a0_5 1 1000000 false _ A22.out).mono ?_); rintro e w' ⟨rfl, ⟨nd, rfl⟩⟩; refine ⟨_, rfl, ?_⟩))
  go_ret
  exact ⟨ze, zs1 HB GE122⟩
 subst c23
 have H1 : (if a0_4 ≤ a0_5 then (if a0_4 > 0 then (some true) else (some (a0_0 == 4))) else (some false)) = some r := by rw [if_pos rfl] at H; exact H
 clear H
 have H := H1
 clear H1
 by_cases c24 : a0_4 ≤ a0_5
 rotate_left
 ·rw [if_neg c24] at H
  have c24b0 : decide (a0_4 ≤ a0_5) = false := decide_eq_false c24
  clear c24
  obtain rfl := Option.some.inj H
  go_enter Try.func18, Try.ntmps18
  go_wp2_with (first | ((with_reducible refine gate_dst (N := 1) rfl ?_); refine zbx 1 #[.int .i64 a0_0, .string a0_1, .string a0_2, .string a0_3, .int .i64 a0_4, .int .i64 a0_5, .int .i64 a0_6, .slice A0_7 l0_7.length c0_7] 33 ?_; intro gb122 hg w30 hbox hb; have BK122 := zA hbox; have GW122 := zgs hg (zs0 HB); have GE122 := zgs hg (zs0 HB); replace HB := zE (zs0 HB) hb; clear hb hbox hg; obtain ⟨hcz31_0, hcz31_1, hcz31_2, hcz31_3, hcz31_4, hcz31_5, hcz31_6, hcz31_7⟩ := zd8 BK122; obtain ⟨hfz31_0, hfz31_1, hfz31_2, hfz31_3, hfz31_4, hfz31_5, hfz31_6, hfz31_7⟩ := zn8 BK122) | ((with_reducible refine gate_callee (f := 15) rfl ?_); refine zgl (N := some 20) Try.func15 #[.int .i64 a0_5, .int .i64 1, .int .i64 1000000] ?_; (with_reducible refine (spec_l31In.calls a0_5 1 1000000 true _ A22.out).mono ?_); rintro e w' ⟨rfl, ⟨nd, rfl⟩⟩; refine ⟨_, rfl, ?_⟩))
  go_ret
  exact ⟨ze, zs1 HB GE122⟩
 rw [if_pos c24] at H
 have c24b0 : decide (a0_4 ≤ a0_5) = true := decide_eq_true c24
 clear c24
 by_cases c25 : a0_4 > 0
 ·rw [if_pos c25] at H
  have c25b0 : decide (0 < a0_4) = true := decide_eq_true c25
  clear c25
  obtain rfl := Option.some.inj H
  go_enter Try.func18, Try.ntmps18
  go_wp2_with (first | ((with_reducible refine gate_dst (N := 1) rfl ?_); refine zbx 1 #[.int .i64 a0_0, .string a0_1, .string a0_2, .string a0_3, .int .i64 a0_4, .int .i64 a0_5, .int .i64 a0_6, .slice A0_7 l0_7.length c0_7] 33 ?_; intro gb122 hg w26 hbox hb; have BK122 := zA hbox; have GW122 := zgs hg (zs0 HB); have GE122 := zgs hg (zs0 HB); replace HB := zE (zs0 HB) hb; clear hb hbox hg; obtain ⟨hcz27_0, hcz27_1, hcz27_2, hcz27_3, hcz27_4, hcz27_5, hcz27_6, hcz27_7⟩ := zd8 BK122; obtain ⟨hfz27_0, hfz27_1, hfz27_2, hfz27_3, hfz27_4, hfz27_5, hfz27_6, hfz27_7⟩ := zn8 BK122) | ((with_reducible refine gate_callee (f := 15) rfl ?_); refine zgl (N := some 20) Try.func15 #[.int .i64 a0_5, .int .i64 1, .int .i64 1000000] ?_; (with_reducible refine (spec_l31In.calls a0_5 1 1000000 true _ A22.out).mono ?_); rintro e w' ⟨rfl, ⟨nd, rfl⟩⟩; refine ⟨_, rfl, ?_⟩))
  go_ret
  exact ⟨ze, zs1 HB GE122⟩
 rw [if_neg c25] at H
 have c25b0 : decide (0 < a0_4) = false := decide_eq_false c25
 clear c25
 obtain rfl := Option.some.inj H
 go_enter Try.func18, Try.ntmps18
 go_wp2_with (first | ((with_reducible refine gate_dst (N := 1) rfl ?_); refine zbx 1 #[.int .i64 a0_0, .string a0_1, .string a0_2, .string a0_3, .int .i64 a0_4, .int .i64 a0_5, .int .i64 a0_6, .slice A0_7 l0_7.length c0_7] 33 ?_; intro gb122 hg w28 hbox hb; have BK122 := zA hbox; have GW122 := zgs hg (zs0 HB); have GE122 := zgs hg (zs0 HB); replace HB := zE (zs0 HB) hb; clear hb hbox hg; obtain ⟨hcz29_0, hcz29_1, hcz29_2, hcz29_3, hcz29_4, hcz29_5, hcz29_6, hcz29_7⟩ := zd8 BK122; obtain ⟨hfz29_0, hfz29_1, hfz29_2, hfz29_3, hfz29_4, hfz29_5, hfz29_6, hfz29_7⟩ := zn8 BK122) | ((with_reducible refine gate_callee (f := 15) rfl ?_); refine zgl (N := some 20) Try.func15 #[.int .i64 a0_5, .int .i64 1, .int .i64 1000000] ?_; (with_reducible refine (spec_l31In.calls a0_5 1 1000000 true _ A22.out).mono ?_); rintro e w' ⟨rfl, ⟨nd, rfl⟩⟩; refine ⟨_, rfl, ?_⟩))
 go_ret
 exact ⟨ze, zs1 HB GE122⟩
def spec_l32HasTube.f (a0 : Int) : Option (Bool) := if a0 = 1 then (some true) else (if a0 = 5 then (some true) else (some (a0 == 7)))
set_option maxHeartbeats 8000000 in
set_option maxRecDepth 100000 in
theorem spec_l32HasTube.calls (a0 : Int) (r : Bool) (w : World) (h : spec_l32HasTube.f a0 = some r) :
 Calls Try.prog 19 #[.int .i64 a0] w fun e w' => e = .returned (.bool r) ∧ Drawn0 w w' := by
 have H : (if a0 = 1 then (some true) else (if a0 = 5 then (some true) else (some (a0 == 7)))) = some r := h
 clear h
 by_cases c2 : a0 = 1
 ·rw [if_pos c2] at H
  have c2b0 : (a0 == 1) = true := beq_iff_eq.mpr c2
  have c2b1 : (a0 != 1) = false := bne_eq_false_iff_eq.mpr c2
  clear c2
  obtain rfl := Option.some.inj H
  go_enter Try.func19, Try.ntmps19
  go_wp2
  go_ret
  exact ⟨by first | rfl | (simp; done) | (simp [*]; done), by repeat (first | exact Drawn0.refl _ | apply Drawn0.step)⟩
 rw [if_neg c2] at H
 have c2b0 : (a0 == 1) = false := beq_eq_false_iff_ne.mpr c2
 have c2b1 : (a0 != 1) = true := bne_iff_ne.mpr c2
 by_cases c3 : a0 = 5
 rotate_left
 ·rw [if_neg c3] at H
  have c3b0 : (a0 == 5) = false := beq_eq_false_iff_ne.mpr c3
  have c3b1 : (a0 != 5) = true := bne_iff_ne.mpr c3
  obtain rfl := Option.some.inj H
  go_enter Try.func19, Try.ntmps19
  go_wp2
  go_ret
  exact ⟨by first | rfl | (simp; done) | (simp [*]; done), by repeat (first | exact Drawn0.refl _ | apply Drawn0.step)⟩
 rw [if_pos c3] at H
 have c3b0 : (a0 == 5) = true := beq_iff_eq.mpr c3
 have c3b1 : (a0 != 5) = false := bne_eq_false_iff_eq.mpr c3
 clear c3
 obtain rfl := Option.some.inj H
 go_enter Try.func19, Try.ntmps19
 go_wp2
 go_ret
 exact ⟨by first | rfl | (simp; done) | (simp [*]; done), by repeat (first | exact Drawn0.refl _ | apply Drawn0.step)⟩
def spec_l31Over.f (a0_0 : ByteArray) (a0_1 : Int) (a0_2 : Int) (a0_3 : Int) (a0_4 : Int) (a1_0 : Int) (a1_1 : Int) (a1_2 : Int) (a1_3 : Int) (a1_4 : Int) (a1_5 : Int) : Option (Bool) := (spec_l31In.f a1_0 a0_1 a0_3).bind fun t127 => (if t127 = true then ((spec_l31In.f a1_1 a0_2 a0_4).bind fun t128 => (some t128)) else (some false))
set_option maxHeartbeats 8000000 in
set_option maxRecDepth 100000 in
theorem spec_l31Over.calls (a0_0 : ByteArray) (a0_1 : Int) (a0_2 : Int) (a0_3 : Int) (a0_4 : Int) (a1_0 : Int) (a1_1 : Int) (a1_2 : Int) (a1_3 : Int) (a1_4 : Int) (a1_5 : Int) (r : Bool) (w : World) (h : spec_l31Over.f a0_0 a0_1 a0_2 a0_3 a0_4 a1_0 a1_1 a1_2 a1_3 a1_4 a1_5 = some r) :
 Calls Try.prog 28 #[.agg #[.string a0_0, .int .i64 a0_1, .int .i64 a0_2, .int .i64 a0_3, .int .i64 a0_4], .agg #[.int .i64 a1_0, .int .i64 a1_1, .int .i64 a1_2, .int .i64 a1_3, .int .i64 a1_4, .int .i64 a1_5]] w fun e w' => e = .returned (.bool r) ∧ Below w.heap.size w w' := by
 have hu48 := Try.underlying48
 have hu56 := Try.underlying56
 have HB := Aside0.mk (Below.refl w.heap.size w)
 have H : ((spec_l31In.f a1_0 a0_1 a0_3).bind fun t127 => (if t127 = true then ((spec_l31In.f a1_1 a0_2 a0_4).bind fun t128 => (some t128)) else (some false))) = some r := h
 clear h
 replace H := zbd H; obtain ⟨t127, A3, H⟩ := H
 by_cases c4 : t127 = true
 rotate_left
 ·replace c4 := Bool.eq_false_iff.mpr c4
  subst c4
  have H1 : (some false) = some r := by rw [if_neg (show ¬ (false = true) by decide)] at H; exact H
  clear H
  have H := H1
  clear H1
  obtain rfl := Option.some.inj H
  go_enter Try.func28, Try.ntmps28
  go_wp2_with (first | ((with_reducible refine gate_dst (N := 2) rfl ?_); refine zbx 2 #[.string a0_0, .int .i64 a0_1, .int .i64 a0_2, .int .i64 a0_3, .int .i64 a0_4] 48 ?_; intro gb125 hg w11 hbox hb; have BK125 := zA hbox; have GW125 := zgs hg (zs0 HB); have GE125 := zgs hg (zs0 HB); replace HB := zE (zs0 HB) hb; clear hb hbox hg) | ((with_reducible refine gate_dst (N := 3) rfl ?_); refine zbx 3 #[.int .i64 a1_0, .int .i64 a1_1, .int .i64 a1_2, .int .i64 a1_3, .int .i64 a1_4, .int .i64 a1_5] 56 ?_; intro gb126 hg w12 hbox hb; have BK126 := zA hbox; have GW126 := zgs hg (zs1 HB GE125); have GE126 := zgs hg (zs1 HB GE125); have NB125_126 := zne hg BK125; have NB126_125 := znf hg BK125; replace BK125 := zb BK125 hb; replace HB := zE (zs1 HB GE125) hb; clear hb hbox hg; have hnb13 := NB126_125.out; have hnc13 := NB125_126.out; obtain ⟨hcz14_0, hcz14_1, hcz14_2, hcz14_3, hcz14_4, hcz14_5⟩ := zd6 BK126; obtain ⟨hfz14_0, hfz14_1, hfz14_2, hfz14_3, hfz14_4, hfz14_5⟩ := zn6 BK126; obtain ⟨hcz15_0, hcz15_1, hcz15_2, hcz15_3, hcz15_4⟩ := zd5 BK125; obtain ⟨hfz15_0, hfz15_1, hfz15_2, hfz15_3, hfz15_4⟩ := zn5 BK125) | ((with_reducible refine gate_callee (f := 15) rfl ?_); refine zgl (N := some 11) Try.func15 #[.int .i64 a1_0, .int .i64 a0_1, .int .i64 a0_3] ?_; (with_reducible refine (spec_l31In.calls a1_0 a0_1 a0_3 false _ A3.out).mono ?_); rintro e w' ⟨rfl, ⟨nd, rfl⟩⟩; refine ⟨_, rfl, ?_⟩))
  go_ret
  exact ⟨ze, zs2 HB GE125 GE126⟩
 subst c4
 have H1 : ((spec_l31In.f a1_1 a0_2 a0_4).bind fun t128 => (some t128)) = some r := by rw [if_pos rfl] at H; exact H
 clear H
 have H := H1
 clear H1
 replace H := zbd H; obtain ⟨t128, A5, H⟩ := H
 obtain rfl := Option.some.inj H
 go_enter Try.func28, Try.ntmps28
 go_wp2_with (first | ((with_reducible refine gate_dst (N := 2) rfl ?_); refine zbx 2 #[.string a0_0, .int .i64 a0_1, .int .i64 a0_2, .int .i64 a0_3, .int .i64 a0_4] 48 ?_; intro gb125 hg w6 hbox hb; have BK125 := zA hbox; have GW125 := zgs hg (zs0 HB); have GE125 := zgs hg (zs0 HB); replace HB := zE (zs0 HB) hb; clear hb hbox hg) | ((with_reducible refine gate_dst (N := 3) rfl ?_); refine zbx 3 #[.int .i64 a1_0, .int .i64 a1_1, .int .i64 a1_2, .int .i64 a1_3, .int .i64 a1_4, .int .i64 a1_5] 56 ?_; intro gb126 hg w7 hbox hb; have BK126 := zA hbox; have GW126 := zgs hg (zs1 HB GE125); have GE126 := zgs hg (zs1 HB GE125); have NB125_126 := zne hg BK125; have NB126_125 := znf hg BK125; replace BK125 := zb BK125 hb; replace HB := zE (zs1 HB GE125) hb; clear hb hbox hg; have hnb8 := NB126_125.out; have hnc8 := NB125_126.out; obtain ⟨hcz9_0, hcz9_1, hcz9_2, hcz9_3, hcz9_4, hcz9_5⟩ := zd6 BK126; obtain ⟨hfz9_0, hfz9_1, hfz9_2, hfz9_3, hfz9_4, hfz9_5⟩ := zn6 BK126; obtain ⟨hcz10_0, hcz10_1, hcz10_2, hcz10_3, hcz10_4⟩ := zd5 BK125; obtain ⟨hfz10_0, hfz10_1, hfz10_2, hfz10_3, hfz10_4⟩ := zn5 BK125) | ((with_reducible refine gate_callee (f := 15) rfl ?_); refine zgl (N := some 11) Try.func15 #[.int .i64 a1_0, .int .i64 a0_1, .int .i64 a0_3] ?_; (with_reducible refine (spec_l31In.calls a1_0 a0_1 a0_3 true _ A3.out).mono ?_); rintro e w' ⟨rfl, ⟨nd, rfl⟩⟩; refine ⟨_, rfl, ?_⟩) | (go_at_call 15; (with_reducible refine (spec_l31In.calls a1_1 a0_2 a0_4 t128 _ A5.out).mono ?_); rintro e w' ⟨rfl, ⟨nd, rfl⟩⟩))
 go_ret
 exact ⟨ze, zs2 HB GE125 GE126⟩
def spec_l31BoxOk.f (a0_0 : Int) (a0_1 : Int) (a0_2 : Int) (a0_3 : Int) (a0_4 : Int) (a0_5 : Int) : Option (Bool) := (spec_l31In.f a0_0 0 15).bind fun t130 => (if t130 = true then ((spec_l31In.f a0_1 0 15).bind fun t131 => (if t131 = true then ((spec_l31In.f a0_2 0 a0_3).bind fun t132 => (if t132 = true then (if a0_3 ≤ 6 then ((spec_l31In.f a0_4 0 a0_5).bind fun t133 => (if t133 = true then (some (decide (a0_5 ≤ 10000))) else (some false))) else (some false)) else (some false))) else (some false))) else (some false))
set_option maxHeartbeats 8000000 in
set_option maxRecDepth 100000 in
theorem spec_l31BoxOk.calls (a0_0 : Int) (a0_1 : Int) (a0_2 : Int) (a0_3 : Int) (a0_4 : Int) (a0_5 : Int) (r : Bool) (w : World) (h : spec_l31BoxOk.f a0_0 a0_1 a0_2 a0_3 a0_4 a0_5 = some r) :
 Calls Try.prog 29 #[.agg #[.int .i64 a0_0, .int .i64 a0_1, .int .i64 a0_2, .int .i64 a0_3, .int .i64 a0_4, .int .i64 a0_5]] w fun e w' => e = .returned (.bool r) ∧ Below w.heap.size w w' := by
 have hu56 := Try.underlying56
 have HB := Aside0.mk (Below.refl w.heap.size w)
 have H : ((spec_l31In.f a0_0 0 15).bind fun t130 => (if t130 = true then ((spec_l31In.f a0_1 0 15).bind fun t131 => (if t131 = true then ((spec_l31In.f a0_2 0 a0_3).bind fun t132 => (if t132 = true then (if a0_3 ≤ 6 then ((spec_l31In.f a0_4 0 a0_5).bind fun t133 => (if t133 = true then (some (decide (a0_5 ≤ 10000))) else (some false))) else (some false)) else (some false))) else (some false))) else (some false))) = some r := h
 clear h
 replace H := zbd H; obtain ⟨t130, A2, H⟩ := H
 by_cases c3 : t130 = true
 rotate_left
 ·replace c3 := Bool.eq_false_iff.mpr c3
  subst c3
  have H1 : (some false) = some r := by rw [if_neg (show ¬ (false = true) by decide)] at H; exact H
  clear H
  have H := H1
  clear H1
  obtain rfl := Option.some.inj H
  go_enter Try.func29, Try.ntmps29
  go_wp2_with (first | ((with_reducible refine gate_dst (N := 1) rfl ?_); refine zbx 1 #[.int .i64 a0_0, .int .i64 a0_1, .int .i64 a0_2, .int .i64 a0_3, .int .i64 a0_4, .int .i64 a0_5] 56 ?_; intro gb129 hg w21 hbox hb; have BK129 := zA hbox; have GW129 := zgs hg (zs0 HB); have GE129 := zgs hg (zs0 HB); replace HB := zE (zs0 HB) hb; clear hb hbox hg; obtain ⟨hcz22_0, hcz22_1, hcz22_2, hcz22_3, hcz22_4, hcz22_5⟩ := zd6 BK129; obtain ⟨hfz22_0, hfz22_1, hfz22_2, hfz22_3, hfz22_4, hfz22_5⟩ := zn6 BK129) | ((with_reducible refine gate_callee (f := 15) rfl ?_); refine zgl (N := some 5) Try.func15 #[.int .i64 a0_0, .int .i64 0, .int .i64 15] ?_; (with_reducible refine (spec_l31In.calls a0_0 0 15 false _ A2.out).mono ?_); rintro e w' ⟨rfl, ⟨nd, rfl⟩⟩; refine ⟨_, rfl, ?_⟩))
  go_ret
  exact ⟨ze, zs1 HB GE129⟩
 subst c3
 have H1 : ((spec_l31In.f a0_1 0 15).bind fun t131 => (if t131 = true then ((spec_l31In.f a0_2 0 a0_3).bind fun t132 => (if t132 = true then (if a0_3 ≤ 6 then ((spec_l31In.f a0_4 0 a0_5).bind fun t133 => (if t133 = true then (some (decide (a0_5 ≤ 10000))) else (some false))) else (some false)) else (some false))) else (some false))) = some r := by rw [if_pos rfl] at H; exact H
 clear H
 have H := H1
 clear H1
 replace H := zbd H; obtain ⟨t131, A4, H⟩ := H
 by_cases c5 : t131 = true
 rotate_left
 ·replace c5 := Bool.eq_false_iff.mpr c5
  subst c5
  have H1 : (some false) = some r := by rw [if_neg (show ¬ (false = true) by decide)] at H; exact H
  clear H
  have H := H1
  clear H1
  obtain rfl := Option.some.inj H
  go_enter Try.func29, Try.ntmps29
  go_wp2_with (first | ((with_reducible refine gate_dst (N := 1) rfl ?_); refine zbx 1 #[.int .i64 a0_0, .int .i64 a0_1, .int .i64 a0_2, .int .i64 a0_3, .int .i64 a0_4, .int .i64 a0_5] 56 ?_; intro gb129 hg w19 hbox hb; have BK129 := zA hbox; have GW129 := zgs hg (zs0 HB); have GE129 := zgs hg (zs0 HB); replace HB := zE (zs0 HB) hb; clear hb hbox hg; obtain ⟨hcz20_0, hcz20_1, hcz20_2, hcz20_3, hcz20_4, hcz20_5⟩ := zd6 BK129; obtain ⟨hfz20_0, hfz20_1, hfz20_2, hfz20_3, hfz20_4, hfz20_5⟩ := zn6 BK129) | ((with_reducible refine gate_callee (f := 15) rfl ?_); refine zgl (N := some 5) Try.func15 #[.int .i64 a0_0, .int .i64 0, .int .i64 15] ?_; (with_reducible refine (spec_l31In.calls a0_0 0 15 true _ A2.out).mono ?_); rintro e w' ⟨rfl, ⟨nd, rfl⟩⟩; refine ⟨_, rfl, ?_⟩) | (go_at_call 15; (with_reducible refine (spec_l31In.calls a0_1 0 15 false _ A4.out).mono ?_); rintro e w' ⟨rfl, ⟨nd, rfl⟩⟩))
  go_ret
  exact ⟨ze, zs1 HB GE129⟩
 subst c5
 have H1 : ((spec_l31In.f a0_2 0 a0_3).bind fun t132 => (if t132 = true then (if a0_3 ≤ 6 then ((spec_l31In.f a0_4 0 a0_5).bind fun t133 => (if t133 = true then (some (decide (a0_5 ≤ 10000))) else (some false))) else (some false)) else (some false))) = some r := by rw [if_pos rfl] at H; exact H
 clear H
 have H := H1
 clear H1
 replace H := zbd H; obtain ⟨t132, A6, H⟩ := H
 by_cases c7 : t132 = true
 rotate_left
 ·replace c7 := Bool.eq_false_iff.mpr c7
  subst c7
  have H1 : (some false) = some r := by rw [if_neg (show ¬ (false = true) by decide)] at H; exact H
  clear H
  have H := H1
  clear H1
  obtain rfl := Option.some.inj H
  go_enter Try.func29, Try.ntmps29
  go_wp2_with (first | ((with_reducible refine gate_dst (N := 1) rfl ?_); refine zbx 1 #[.int .i64 a0_0, .int .i64 a0_1, .int .i64 a0_2, .int .i64 a0_3, .int .i64 a0_4, .int .i64 a0_5] 56 ?_; intro gb129 hg w17 hbox hb; have BK129 := zA hbox; have GW129 := zgs hg (zs0 HB); have GE129 := zgs hg (zs0 HB); replace HB := zE (zs0 HB) hb; clear hb hbox hg; obtain ⟨hcz18_0, hcz18_1, hcz18_2, hcz18_3, hcz18_4, hcz18_5⟩ := zd6 BK129; obtain ⟨hfz18_0, hfz18_1, hfz18_2, hfz18_3, hfz18_4, hfz18_5⟩ := zn6 BK129) | ((with_reducible refine gate_callee (f := 15) rfl ?_); refine zgl (N := some 5) Try.func15 #[.int .i64 a0_0, .int .i64 0, .int .i64 15] ?_; (with_reducible refine (spec_l31In.calls a0_0 0 15 true _ A2.out).mono ?_); rintro e w' ⟨rfl, ⟨nd, rfl⟩⟩; refine ⟨_, rfl, ?_⟩) | (go_at_call 15; (with_reducible refine (spec_l31In.calls a0_1 0 15 true _ A4.out).mono ?_); rintro e w' ⟨rfl, ⟨nd, rfl⟩⟩) | (go_at_call 15; (with_reducible refine (spec_l31In.calls a0_2 0 a0_3 false _ A6.out).mono ?_); rintro e w' ⟨rfl, ⟨nd, rfl⟩⟩))
  go_ret
  exact ⟨ze, zs1 HB GE129⟩
 subst c7
 have H1 : (if a0_3 ≤ 6 then ((spec_l31In.f a0_4 0 a0_5).bind fun t133 => (if t133 = true then (some (decide (a0_5 ≤ 10000))) else (some false))) else (some false)) = some r := by rw [if_pos rfl] at H; exact H
 clear H
 have H := H1
 clear H1
 by_cases c8 : a0_3 ≤ 6
 rotate_left
 ·rw [if_neg c8] at H
  have c8b0 : decide (a0_3 ≤ 6) = false := decide_eq_false c8
  clear c8
  obtain rfl := Option.some.inj H
  go_enter Try.func29, Try.ntmps29
  go_wp2_with (first | ((with_reducible refine gate_dst (N := 1) rfl ?_); refine zbx 1 #[.int .i64 a0_0, .int .i64 a0_1, .int .i64 a0_2, .int .i64 a0_3, .int .i64 a0_4, .int .i64 a0_5] 56 ?_; intro gb129 hg w15 hbox hb; have BK129 := zA hbox; have GW129 := zgs hg (zs0 HB); have GE129 := zgs hg (zs0 HB); replace HB := zE (zs0 HB) hb; clear hb hbox hg; obtain ⟨hcz16_0, hcz16_1, hcz16_2, hcz16_3, hcz16_4, hcz16_5⟩ := zd6 BK129; obtain ⟨hfz16_0, hfz16_1, hfz16_2, hfz16_3, hfz16_4, hfz16_5⟩ := zn6 BK129) | ((with_reducible refine gate_callee (f := 15) rfl ?_); refine zgl (N := some 5) Try.func15 #[.int .i64 a0_0, .int .i64 0, .int .i64 15] ?_; (with_reducible refine (spec_l31In.calls a0_0 0 15 true _ A2.out).mono ?_); rintro e w' ⟨rfl, ⟨nd, rfl⟩⟩; refine ⟨_, rfl, ?_⟩) | (go_at_call 15; (with_reducible refine (spec_l31In.calls a0_1 0 15 true _ A4.out).mono ?_); rintro e w' ⟨rfl, ⟨nd, rfl⟩⟩) | (go_at_call 15; (with_reducible refine (spec_l31In.calls a0_2 0 a0_3 true _ A6.out).mono ?_); rintro e w' ⟨rfl, ⟨nd, rfl⟩⟩))
  go_ret
  exact ⟨ze, zs1 HB GE129⟩
 rw [if_pos c8] at H
 have c8b0 : decide (a0_3 ≤ 6) = true := decide_eq_true c8
 clear c8
 replace H := zbd H; obtain ⟨t133, A9, H⟩ := H
 by_cases c10 : t133 = true
 ·subst c10
  have H1 : (some (decide (a0_5 ≤ 10000))) = some r := by rw [if_pos rfl] at H; exact H
  clear H
  have H := H1
  clear H1
  obtain rfl := Option.some.inj H
  go_enter Try.func29, Try.ntmps29
  go_wp2_with (first | ((with_reducible refine gate_dst (N := 1) rfl ?_); refine zbx 1 #[.int .i64 a0_0, .int .i64 a0_1, .int .i64 a0_2, .int .i64 a0_3, .int .i64 a0_4, .int .i64 a0_5] 56 ?_; intro gb129 hg w11 hbox hb; have BK129 := zA hbox; have GW129 := zgs hg (zs0 HB); have GE129 := zgs hg (zs0 HB); replace HB := zE (zs0 HB) hb; clear hb hbox hg; obtain ⟨hcz12_0, hcz12_1, hcz12_2, hcz12_3, hcz12_4, hcz12_5⟩ := zd6 BK129; obtain ⟨hfz12_0, hfz12_1, hfz12_2, hfz12_3, hfz12_4, hfz12_5⟩ := zn6 BK129) | ((with_reducible refine gate_callee (f := 15) rfl ?_); refine zgl (N := some 5) Try.func15 #[.int .i64 a0_0, .int .i64 0, .int .i64 15] ?_; (with_reducible refine (spec_l31In.calls a0_0 0 15 true _ A2.out).mono ?_); rintro e w' ⟨rfl, ⟨nd, rfl⟩⟩; refine ⟨_, rfl, ?_⟩) | (go_at_call 15; (with_reducible refine (spec_l31In.calls a0_1 0 15 true _ A4.out).mono ?_); rintro e w' ⟨rfl, ⟨nd, rfl⟩⟩) | (go_at_call 15; (with_reducible refine (spec_l31In.calls a0_2 0 a0_3 true _ A6.out).mono ?_); rintro e w' ⟨rfl, ⟨nd, rfl⟩⟩) | (go_at_call 15; (with_reducible refine (spec_l31In.calls a0_4 0 a0_5 true _ A9.out).mono ?_); rintro e w' ⟨rfl, ⟨nd, rfl⟩⟩))
  go_ret
  exact ⟨ze, zs1 HB GE129⟩
 replace c10 := Bool.eq_false_iff.mpr c10
 subst c10
 have H1 : (some false) = some r := by rw [if_neg (show ¬ (false = true) by decide)] at H; exact H
 clear H
 have H := H1
 clear H1
 obtain rfl := Option.some.inj H
 go_enter Try.func29, Try.ntmps29
 go_wp2_with (first | ((with_reducible refine gate_dst (N := 1) rfl ?_); refine zbx 1 #[.int .i64 a0_0, .int .i64 a0_1, .int .i64 a0_2, .int .i64 a0_3, .int .i64 a0_4, .int .i64 a0_5] 56 ?_; intro gb129 hg w13 hbox hb; have BK129 := zA hbox; have GW129 := zgs hg (zs0 HB); have GE129 := zgs hg (zs0 HB); replace HB := zE (zs0 HB) hb; clear hb hbox hg; obtain ⟨hcz14_0, hcz14_1, hcz14_2, hcz14_3, hcz14_4, hcz14_5⟩ := zd6 BK129; obtain ⟨hfz14_0, hfz14_1, hfz14_2, hfz14_3, hfz14_4, hfz14_5⟩ := zn6 BK129) | ((with_reducible refine gate_callee (f := 15) rfl ?_); refine zgl (N := some 5) Try.func15 #[.int .i64 a0_0, .int .i64 0, .int .i64 15] ?_; (with_reducible refine (spec_l31In.calls a0_0 0 15 true _ A2.out).mono ?_); rintro e w' ⟨rfl, ⟨nd, rfl⟩⟩; refine ⟨_, rfl, ?_⟩) | (go_at_call 15; (with_reducible refine (spec_l31In.calls a0_1 0 15 true _ A4.out).mono ?_); rintro e w' ⟨rfl, ⟨nd, rfl⟩⟩) | (go_at_call 15; (with_reducible refine (spec_l31In.calls a0_2 0 a0_3 true _ A6.out).mono ?_); rintro e w' ⟨rfl, ⟨nd, rfl⟩⟩) | (go_at_call 15; (with_reducible refine (spec_l31In.calls a0_4 0 a0_5 false _ A9.out).mono ?_); rintro e w' ⟨rfl, ⟨nd, rfl⟩⟩))
 go_ret
 exact ⟨ze, zs1 HB GE129⟩
end Go.Proofs.Ytbgcpbdnmpnjhaa.QFnExactHandWordOk
