/- The walk of what the law FnExactPlanBaseOk reaches: laid by a program of this session (ownprint.py). -/
import Derived.Test.YtleenmphhlioaaaQFnExactPlanBaseOkx0
import Derived.Test.YtleenmphhlioaaaQFnExactPlanBaseOkx1
namespace Go.Proofs.Ytleenmphhlioaaa.QFnExactPlanBaseOk
open Go.RowKit Go.Proofs.YtleenmphhlioaaaW.PrintWords Go.Proofs.YtleenmphhlioaaaW.PrintLast Go.Proofs.YtleenmphhlioaaaW.PrintMore Go.Proofs.Ytleenmphhlioaaa.Z
attribute [local go_sem] max2_int min2_int max_two min_two max_three min_three max_four min_four zdn   -- for this text's walks alone
set_option linter.unusedVariables false
set_option linter.unusedSimpArgs false
def spec_l11NameOk.l0 : Nat → ByteArray → Int → Option (Bool)
 | 0, _, _ => none
 | k + 1, x0, x3 => if x3 < (x0.size : Int) then (if 0 ≤ x3 then (if (bt x0 x3) ≥ 97 then (if (bt x0 x3) ≤ 122 then (spec_l11NameOk.l0 k x0 (wrap64 (x3 + 1))) else (if (bt x0 x3) ≥ 48 then (if (bt x0 x3) ≤ 57 then (spec_l11NameOk.l0 k x0 (wrap64 (x3 + 1))) else (if ((bt x0 x3) = 45) then (spec_l11NameOk.l0 k x0 (wrap64 (x3 + 1))) else (some false))) else (if ((bt x0 x3) = 45) then (spec_l11NameOk.l0 k x0 (wrap64 (x3 + 1))) else (some false)))) else (if (bt x0 x3) ≥ 48 then (if (bt x0 x3) ≤ 57 then (spec_l11NameOk.l0 k x0 (wrap64 (x3 + 1))) else (if ((bt x0 x3) = 45) then (spec_l11NameOk.l0 k x0 (wrap64 (x3 + 1))) else (some false))) else (if ((bt x0 x3) = 45) then (spec_l11NameOk.l0 k x0 (wrap64 (x3 + 1))) else (some false)))) else (none)) else (some true)
def spec_l11NameOk.f (k : Nat) (a0 : ByteArray) : Option (Bool) := (spec_l11In.f (a0.size : Int) 1 8).bind fun t110 => (if t110 = true then (spec_l11NameOk.l0 k a0 0) else (some false))
set_option maxHeartbeats 8000000 in
set_option maxRecDepth 100000 in
theorem spec_l11NameOk.calls (k : Nat) (a0 : ByteArray) (r : Bool) (w : World) (h : spec_l11NameOk.f k a0 = some r) :
 Calls Try.prog 21 #[.string a0] w fun e w' => e = .returned (.bool r) ∧ Drawn0 w w' := by
 have H : ((spec_l11In.f (a0.size : Int) 1 8).bind fun t110 => (if t110 = true then (spec_l11NameOk.l0 k a0 0) else (some false))) = some r := h
 clear h
 replace H := zbd H; obtain ⟨t110, A2, H⟩ := H
 by_cases c3 : t110 = true
 rotate_left
 ·replace c3 := Bool.eq_false_iff.mpr c3
  subst c3
  have H1 : (some false) = some r := by rw [if_neg (show ¬ (false = true) by decide)] at H; exact H
  clear H
  have H := H1
  clear H1
  obtain rfl := Option.some.inj H
  go_enter Try.func21, Try.ntmps21
  go_wp2_with (first | ((with_reducible refine gate_callee (f := 22) rfl ?_); refine zgl (N := some 7) Try.func22 #[.int .i64 (a0.size : Int), .int .i64 1, .int .i64 8] ?_; (with_reducible refine (spec_l11In.calls (a0.size : Int) 1 8 false _ A2.out).mono ?_); rintro e w' ⟨rfl, ⟨nd, rfl⟩⟩; refine ⟨_, rfl, ?_⟩))
  go_ret
  exact ⟨by first | rfl | (simp; done) | (simp [*]; done), by repeat (first | exact Drawn0.refl _ | apply Drawn0.step)⟩
 subst c3
 have H1 : (spec_l11NameOk.l0 k a0 0) = some r := by rw [if_pos rfl] at H; exact H
 clear H
 have H := H1
 clear H1
 have H' := Aside0.mk H
 clear H
 go_enter Try.func21, Try.ntmps21
 go_wp2_with (first | ((with_reducible refine gate_callee (f := 22) rfl ?_); refine zgl (N := some 7) Try.func22 #[.int .i64 (a0.size : Int), .int .i64 1, .int .i64 8] ?_; (with_reducible refine (spec_l11In.calls (a0.size : Int) 1 8 true _ A2.out).mono ?_); rintro e w' ⟨rfl, ⟨nd, rfl⟩⟩; refine ⟨_, rfl, ?_⟩))
 go_loopg [3] k (fun kq v3 w' => ∃ (x3_1 : Int), v3 = .int .i64 x3_1 ∧ Aside0 (spec_l11NameOk.l0 kq a0 x3_1 = some r) ∧ Aside0 (kq ≤ k) ∧ Drawn0 w w')
 case atStart => exact ⟨(0), zi, H', ⟨Nat.le_refl _⟩, by repeat (first | exact Drawn0.refl _ | apply Drawn0.step)⟩
 case round =>
  clear H'
  try clear c2
  try clear p2
  try clear c3
  obtain ⟨x3_1, rfl, HA, HK1, ⟨m1, rfl⟩⟩ := hrel
  cases gk with
  | zero => exact absurd HA.out (by simp [spec_l11NameOk.l0])
  | succ k1 =>
   have H := HA.out
   clear HA
   simp only [spec_l11NameOk.l0] at H
   by_cases c4 : x3_1 < (a0.size : Int)
   rotate_left
   ·rw [if_neg c4] at H
    have c4b0 : decide (x3_1 < (a0.size : Int)) = false := decide_eq_false c4
    clear c4
    obtain rfl := Option.some.inj H
    go_wp2
    go_ret
    exact ⟨by first | rfl | (simp; done) | (simp [*]; done), by repeat (first | exact Drawn0.refl _ | apply Drawn0.step)⟩
   rw [if_pos c4] at H
   have c4b0 : decide (x3_1 < (a0.size : Int)) = true := decide_eq_true c4
   clear c4
   by_cases c5 : 0 ≤ x3_1
   rotate_left
   ·rw [if_neg c5] at H
    exact absurd H (by simp)
   rw [if_pos c5] at H
   have c5b0 : decide (0 ≤ x3_1) = true := decide_eq_true c5
   clear c5
   by_cases c7 : (bt a0 x3_1) ≥ 97
   rotate_left
   ·rw [if_neg c7] at H
    have c7b0 : decide (97 ≤ (bt a0 x3_1)) = false := decide_eq_false c7
    clear c7
    by_cases c13 : (bt a0 x3_1) ≥ 48
    rotate_left
    ·rw [if_neg c13] at H
     have c13b0 : decide (48 ≤ (bt a0 x3_1)) = false := decide_eq_false c13
     clear c13
     by_cases c16 : ((bt a0 x3_1) = 45)
     rotate_left
     ·rw [if_neg c16] at H
      have c16b0 : ((bt a0 x3_1) == 45) = false := beq_eq_false_iff_ne.mpr c16
      have c16b1 : ((bt a0 x3_1) != 45) = true := bne_iff_ne.mpr c16
      obtain rfl := Option.some.inj H
      have p6 : 0 ≤ (x3_1 : Int) := za
      have q6 : x3_1 < (a0.size : Int) := za
      have hx6 := bt_at a0 x3_1
      replace p6 := eq_true p6
      replace q6 := eq_true q6
      go_wp2
      go_ret
      exact ⟨by first | rfl | (simp; done) | (simp [*]; done), by repeat (first | exact Drawn0.refl _ | apply Drawn0.step)⟩
     rw [if_pos c16] at H
     have c16b0 : ((bt a0 x3_1) == 45) = true := beq_iff_eq.mpr c16
     have c16b1 : ((bt a0 x3_1) != 45) = false := bne_eq_false_iff_eq.mpr c16
     clear c16
     have H' := Aside0.mk H
     clear H
     have p6 : 0 ≤ (x3_1 : Int) := za
     have q6 : x3_1 < (a0.size : Int) := za
     have hx6 := bt_at a0 x3_1
     replace p6 := eq_true p6
     replace q6 := eq_true q6
     go_wp2
     go_roundg k1
     case measure => have := HK1.out; omega
     case rel => exact ⟨(wrap64 (x3_1 + 1)), zi, H', ⟨by have := HK1.out; omega⟩, by repeat (first | exact Drawn0.refl _ | apply Drawn0.step)⟩
    rw [if_pos c13] at H
    have c13b0 : decide (48 ≤ (bt a0 x3_1)) = true := decide_eq_true c13
    clear c13
    by_cases c14 : (bt a0 x3_1) ≤ 57
    ·rw [if_pos c14] at H
     have c14b0 : decide ((bt a0 x3_1) ≤ 57) = true := decide_eq_true c14
     clear c14
     have H' := Aside0.mk H
     clear H
     have p6 : 0 ≤ (x3_1 : Int) := za
     have q6 : x3_1 < (a0.size : Int) := za
     have hx6 := bt_at a0 x3_1
     replace p6 := eq_true p6
     replace q6 := eq_true q6
     go_wp2
     go_roundg k1
     case measure => have := HK1.out; omega
     case rel => exact ⟨(wrap64 (x3_1 + 1)), zi, H', ⟨by have := HK1.out; omega⟩, by repeat (first | exact Drawn0.refl _ | apply Drawn0.step)⟩
    rw [if_neg c14] at H
    have c14b0 : decide ((bt a0 x3_1) ≤ 57) = false := decide_eq_false c14
    clear c14
    by_cases c15 : ((bt a0 x3_1) = 45)
    rotate_left
    ·rw [if_neg c15] at H
     have c15b0 : ((bt a0 x3_1) == 45) = false := beq_eq_false_iff_ne.mpr c15
     have c15b1 : ((bt a0 x3_1) != 45) = true := bne_iff_ne.mpr c15
     obtain rfl := Option.some.inj H
     have p6 : 0 ≤ (x3_1 : Int) := za
     have q6 : x3_1 < (a0.size : Int) := za
     have hx6 := bt_at a0 x3_1
     replace p6 := eq_true p6
     replace q6 := eq_true q6
     go_wp2
     go_ret
     exact ⟨by first | rfl | (simp; done) | (simp [*]; done), by repeat (first | exact Drawn0.refl _ | apply Drawn0.step)⟩
    rw [if_pos c15] at H
    have c15b0 : ((bt a0 x3_1) == 45) = true := beq_iff_eq.mpr c15
    have c15b1 : ((bt a0 x3_1) != 45) = false := bne_eq_false_iff_eq.mpr c15
    clear c15
    have H' := Aside0.mk H
    clear H
    have p6 : 0 ≤ (x3_1 : Int) := za
    have q6 : x3_1 < (a0.size : Int) := za
    have hx6 := bt_at a0 x3_1
    replace p6 := eq_true p6
    replace q6 := eq_true q6
    go_wp2
    go_roundg k1
    case measure => have := HK1.out; omega
    case rel => exact ⟨(wrap64 (x3_1 + 1)), zi, H', ⟨by have := HK1.out; omega⟩, by repeat (first | exact Drawn0.refl _ | apply Drawn0.step)⟩
   rw [if_pos c7] at H
   have c7b0 : decide (97 ≤ (bt a0 x3_1)) = true := decide_eq_true c7
   clear c7
   by_cases c8 : (bt a0 x3_1) ≤ 122
   ·rw [if_pos c8] at H
    have c8b0 : decide ((bt a0 x3_1) ≤ 122) = true := decide_eq_true c8
    clear c8
    have H' := Aside0.mk H
    clear H
    have p6 : 0 ≤ (x3_1 : Int) := za
    have q6 : x3_1 < (a0.size : Int) := za
    have hx6 := bt_at a0 x3_1
    replace p6 := eq_true p6
    replace q6 := eq_true q6
    go_wp2
    go_roundg k1
    case measure => have := HK1.out; omega
    case rel => exact ⟨(wrap64 (x3_1 + 1)), zi, H', ⟨by have := HK1.out; omega⟩, by repeat (first | exact Drawn0.refl _ | apply Drawn0.step)⟩
   rw [if_neg c8] at H
   have c8b0 : decide ((bt a0 x3_1) ≤ 122) = false := decide_eq_false c8
   clear c8
   by_cases c9 : (bt a0 x3_1) ≥ 48
   rotate_left
   ·rw [if_neg c9] at H
    have c9b0 : decide (48 ≤ (bt a0 x3_1)) = false := decide_eq_false c9
    clear c9
    by_cases c12 : ((bt a0 x3_1) = 45)
    rotate_left
    ·rw [if_neg c12] at H
     have c12b0 : ((bt a0 x3_1) == 45) = false := beq_eq_false_iff_ne.mpr c12
     have c12b1 : ((bt a0 x3_1) != 45) = true := bne_iff_ne.mpr c12
     obtain rfl := Option.some.inj H
     have p6 : 0 ≤ (x3_1 : Int) := za
     have q6 : x3_1 < (a0.size : Int) := za
     have hx6 := bt_at a0 x3_1
     replace p6 := eq_true p6
     replace q6 := eq_true q6
     go_wp2
     go_ret
     exact ⟨by first | rfl | (simp; done) | (simp [*]; done), by repeat (first | exact Drawn0.refl _ | apply Drawn0.step)⟩
    rw [if_pos c12] at H
    have c12b0 : ((bt a0 x3_1) == 45) = true := beq_iff_eq.mpr c12
    have c12b1 : ((bt a0 x3_1) != 45) = false := bne_eq_false_iff_eq.mpr c12
    clear c12
    have H' := Aside0.mk H
    clear H
    have p6 : 0 ≤ (x3_1 : Int) := za
    have q6 : x3_1 < (a0.size : Int) := za
    have hx6 := bt_at a0 x3_1
    replace p6 := eq_true p6
    replace q6 := eq_true q6
    go_wp2
    go_roundg k1
    case measure => have := HK1.out; omega
    case rel => exact ⟨(wrap64 (x3_1 + 1)), zi, H', ⟨by have := HK1.out; omega⟩, by repeat (first | exact Drawn0.refl _ | apply Drawn0.step)⟩
   rw [if_pos c9] at H
   have c9b0 : decide (48 ≤ (bt a0 x3_1)) = true := decide_eq_true c9
   clear c9
   by_cases c10 : (bt a0 x3_1) ≤ 57
   ·rw [if_pos c10] at H
    have c10b0 : decide ((bt a0 x3_1) ≤ 57) = true := decide_eq_true c10
    clear c10
    have H' := Aside0.mk H
    clear H
    have p6 : 0 ≤ (x3_1 : Int) := za
    have q6 : x3_1 < (a0.size : Int) := za
    have hx6 := bt_at a0 x3_1
    replace p6 := eq_true p6
    replace q6 := eq_true q6
    go_wp2
    go_roundg k1
    case measure => have := HK1.out; omega
    case rel => exact ⟨(wrap64 (x3_1 + 1)), zi, H', ⟨by have := HK1.out; omega⟩, by repeat (first | exact Drawn0.refl _ | apply Drawn0.step)⟩
   rw [if_neg c10] at H
   have c10b0 : decide ((bt a0 x3_1) ≤ 57) = false := decide_eq_false c10
   clear c10
   by_cases c11 : ((bt a0 x3_1) = 45)
   rotate_left
   ·rw [if_neg c11] at H
    have c11b0 : ((bt a0 x3_1) == 45) = false := beq_eq_false_iff_ne.mpr c11
    have c11b1 : ((bt a0 x3_1) != 45) = true := bne_iff_ne.mpr c11
    obtain rfl := Option.some.inj H
    have p6 : 0 ≤ (x3_1 : Int) := za
    have q6 : x3_1 < (a0.size : Int) := za
    have hx6 := bt_at a0 x3_1
    replace p6 := eq_true p6
    replace q6 := eq_true q6
    go_wp2
    go_ret
    exact ⟨by first | rfl | (simp; done) | (simp [*]; done), by repeat (first | exact Drawn0.refl _ | apply Drawn0.step)⟩
   rw [if_pos c11] at H
   have c11b0 : ((bt a0 x3_1) == 45) = true := beq_iff_eq.mpr c11
   have c11b1 : ((bt a0 x3_1) != 45) = false := bne_eq_false_iff_eq.mpr c11
   clear c11
   have H' := Aside0.mk H
   clear H
   have p6 : 0 ≤ (x3_1 : Int) := za
   have q6 : x3_1 < (a0.size : Int) := za
   have hx6 := bt_at a0 x3_1
   replace p6 := eq_true p6
   replace q6 := eq_true q6
   go_wp2
   go_roundg k1
   case measure => have := HK1.out; omega
   case rel => exact ⟨(wrap64 (x3_1 + 1)), zi, H', ⟨by have := HK1.out; omega⟩, by repeat (first | exact Drawn0.refl _ | apply Drawn0.step)⟩
def spec_l11KindOk.f (k : Nat) (a0_0 : ByteArray) (a0_1 : Int) (a0_2 : Int) : Option (Bool) := (spec_l11NameOk.f k a0_0).bind fun t112 => (if t112 = true then ((spec_l11In.f a0_1 1 a0_2).bind fun t113 => (if t113 = true then (some (decide (a0_2 ≤ 50))) else (some false))) else (some false))
set_option maxHeartbeats 8000000 in
set_option maxRecDepth 100000 in
theorem spec_l11KindOk.calls (k : Nat) (a0_0 : ByteArray) (a0_1 : Int) (a0_2 : Int) (r : Bool) (w : World) (h : spec_l11KindOk.f k a0_0 a0_1 a0_2 = some r) :
 Calls Try.prog 11 #[.agg #[.string a0_0, .int .i64 a0_1, .int .i64 a0_2]] w fun e w' => e = .returned (.bool r) ∧ Below w.heap.size w w' := by
 have hu39 := Try.underlying39
 have HB := Aside0.mk (Below.refl w.heap.size w)
 have H : ((spec_l11NameOk.f k a0_0).bind fun t112 => (if t112 = true then ((spec_l11In.f a0_1 1 a0_2).bind fun t113 => (if t113 = true then (some (decide (a0_2 ≤ 50))) else (some false))) else (some false))) = some r := h
 clear h
 replace H := zbd H; obtain ⟨t112, A2, H⟩ := H
 by_cases c3 : t112 = true
 rotate_left
 ·replace c3 := Bool.eq_false_iff.mpr c3
  subst c3
  have H1 : (some false) = some r := by rw [if_neg (show ¬ (false = true) by decide)] at H; exact H
  clear H
  have H := H1
  clear H1
  obtain rfl := Option.some.inj H
  go_enter Try.func11, Try.ntmps11
  go_wp2_with (first | ((with_reducible refine gate_dst (N := 1) rfl ?_); refine zbx 1 #[.string a0_0, .int .i64 a0_1, .int .i64 a0_2] 39 ?_; intro gb111 hg w10 hbox hb; have BK111 := zA hbox; have GW111 := zgs hg (zs0 HB); have GE111 := zgs hg (zs0 HB); replace HB := zE (zs0 HB) hb; clear hb hbox hg; obtain ⟨hcz11_0, hcz11_1, hcz11_2⟩ := zd3 BK111; obtain ⟨hfz11_0, hfz11_1, hfz11_2⟩ := zn3 BK111) | ((with_reducible refine gate_callee (f := 21) rfl ?_); refine zgl (N := some 5) Try.func21 #[.string a0_0] ?_; (with_reducible refine (spec_l11NameOk.calls k a0_0 false _ A2.out).mono ?_); rintro e w' ⟨rfl, ⟨nd, rfl⟩⟩; refine ⟨_, rfl, ?_⟩))
  go_ret
  exact ⟨ze, zs1 HB GE111⟩
 subst c3
 have H1 : ((spec_l11In.f a0_1 1 a0_2).bind fun t113 => (if t113 = true then (some (decide (a0_2 ≤ 50))) else (some false))) = some r := by rw [if_pos rfl] at H; exact H
 clear H
 have H := H1
 clear H1
 replace H := zbd H; obtain ⟨t113, A4, H⟩ := H
 by_cases c5 : t113 = true
 ·subst c5
  have H1 : (some (decide (a0_2 ≤ 50))) = some r := by rw [if_pos rfl] at H; exact H
  clear H
  have H := H1
  clear H1
  obtain rfl := Option.some.inj H
  go_enter Try.func11, Try.ntmps11
  go_wp2_with (first | ((with_reducible refine gate_dst (N := 1) rfl ?_); refine zbx 1 #[.string a0_0, .int .i64 a0_1, .int .i64 a0_2] 39 ?_; intro gb111 hg w6 hbox hb; have BK111 := zA hbox; have GW111 := zgs hg (zs0 HB); have GE111 := zgs hg (zs0 HB); replace HB := zE (zs0 HB) hb; clear hb hbox hg; obtain ⟨hcz7_0, hcz7_1, hcz7_2⟩ := zd3 BK111; obtain ⟨hfz7_0, hfz7_1, hfz7_2⟩ := zn3 BK111) | ((with_reducible refine gate_callee (f := 21) rfl ?_); refine zgl (N := some 5) Try.func21 #[.string a0_0] ?_; (with_reducible refine (spec_l11NameOk.calls k a0_0 true _ A2.out).mono ?_); rintro e w' ⟨rfl, ⟨nd, rfl⟩⟩; refine ⟨_, rfl, ?_⟩) | (go_at_call 22; (with_reducible refine (spec_l11In.calls a0_1 1 a0_2 true _ A4.out).mono ?_); rintro e w' ⟨rfl, ⟨nd, rfl⟩⟩))
  go_ret
  exact ⟨ze, zs1 HB GE111⟩
 replace c5 := Bool.eq_false_iff.mpr c5
 subst c5
 have H1 : (some false) = some r := by rw [if_neg (show ¬ (false = true) by decide)] at H; exact H
 clear H
 have H := H1
 clear H1
 obtain rfl := Option.some.inj H
 go_enter Try.func11, Try.ntmps11
 go_wp2_with (first | ((with_reducible refine gate_dst (N := 1) rfl ?_); refine zbx 1 #[.string a0_0, .int .i64 a0_1, .int .i64 a0_2] 39 ?_; intro gb111 hg w8 hbox hb; have BK111 := zA hbox; have GW111 := zgs hg (zs0 HB); have GE111 := zgs hg (zs0 HB); replace HB := zE (zs0 HB) hb; clear hb hbox hg; obtain ⟨hcz9_0, hcz9_1, hcz9_2⟩ := zd3 BK111; obtain ⟨hfz9_0, hfz9_1, hfz9_2⟩ := zn3 BK111) | ((with_reducible refine gate_callee (f := 21) rfl ?_); refine zgl (N := some 5) Try.func21 #[.string a0_0] ?_; (with_reducible refine (spec_l11NameOk.calls k a0_0 true _ A2.out).mono ?_); rintro e w' ⟨rfl, ⟨nd, rfl⟩⟩; refine ⟨_, rfl, ?_⟩) | (go_at_call 22; (with_reducible refine (spec_l11In.calls a0_1 1 a0_2 false _ A4.out).mono ?_); rintro e w' ⟨rfl, ⟨nd, rfl⟩⟩))
 go_ret
 exact ⟨ze, zs1 HB GE111⟩
def spec_l11PointOk.f (k : Nat) (a0_0 : ByteArray) (a0_1 : Int) (a0_2 : Int) : Option (Bool) := (spec_l11NameOk.f k a0_0).bind fun t115 => (if t115 = true then ((spec_l11In.f a0_1 0 15).bind fun t116 => (if t116 = true then ((spec_l11In.f a0_2 0 15).bind fun t117 => (some t117)) else (some false))) else (some false))
set_option maxHeartbeats 8000000 in
set_option maxRecDepth 100000 in
theorem spec_l11PointOk.calls (k : Nat) (a0_0 : ByteArray) (a0_1 : Int) (a0_2 : Int) (r : Bool) (w : World) (h : spec_l11PointOk.f k a0_0 a0_1 a0_2 = some r) :
 Calls Try.prog 12 #[.agg #[.string a0_0, .int .i64 a0_1, .int .i64 a0_2]] w fun e w' => e = .returned (.bool r) ∧ Below w.heap.size w w' := by
 have hu42 := Try.underlying42
 have HB := Aside0.mk (Below.refl w.heap.size w)
 have H : ((spec_l11NameOk.f k a0_0).bind fun t115 => (if t115 = true then ((spec_l11In.f a0_1 0 15).bind fun t116 => (if t116 = true then ((spec_l11In.f a0_2 0 15).bind fun t117 => (some t117)) else (some false))) else (some false))) = some r := h
 clear h
 replace H := zbd H; obtain ⟨t115, A2, H⟩ := H
 by_cases c3 : t115 = true
 rotate_left
 ·replace c3 := Bool.eq_false_iff.mpr c3
  subst c3
  have H1 : (some false) = some r := by rw [if_neg (show ¬ (false = true) by decide)] at H; exact H
  clear H
  have H := H1
  clear H1
  obtain rfl := Option.some.inj H
  go_enter Try.func12, Try.ntmps12
  go_wp2_with (first | ((with_reducible refine gate_dst (N := 1) rfl ?_); refine zbx 1 #[.string a0_0, .int .i64 a0_1, .int .i64 a0_2] 42 ?_; intro gb114 hg w11 hbox hb; have BK114 := zA hbox; have GW114 := zgs hg (zs0 HB); have GE114 := zgs hg (zs0 HB); replace HB := zE (zs0 HB) hb; clear hb hbox hg; obtain ⟨hcz12_0, hcz12_1, hcz12_2⟩ := zd3 BK114; obtain ⟨hfz12_0, hfz12_1, hfz12_2⟩ := zn3 BK114) | ((with_reducible refine gate_callee (f := 21) rfl ?_); refine zgl (N := some 5) Try.func21 #[.string a0_0] ?_; (with_reducible refine (spec_l11NameOk.calls k a0_0 false _ A2.out).mono ?_); rintro e w' ⟨rfl, ⟨nd, rfl⟩⟩; refine ⟨_, rfl, ?_⟩))
  go_ret
  exact ⟨ze, zs1 HB GE114⟩
 subst c3
 have H1 : ((spec_l11In.f a0_1 0 15).bind fun t116 => (if t116 = true then ((spec_l11In.f a0_2 0 15).bind fun t117 => (some t117)) else (some false))) = some r := by rw [if_pos rfl] at H; exact H
 clear H
 have H := H1
 clear H1
 replace H := zbd H; obtain ⟨t116, A4, H⟩ := H
 by_cases c5 : t116 = true
 rotate_left
 ·replace c5 := Bool.eq_false_iff.mpr c5
  subst c5
  have H1 : (some false) = some r := by rw [if_neg (show ¬ (false = true) by decide)] at H; exact H
  clear H
  have H := H1
  clear H1
  obtain rfl := Option.some.inj H
  go_enter Try.func12, Try.ntmps12
  go_wp2_with (first | ((with_reducible refine gate_dst (N := 1) rfl ?_); refine zbx 1 #[.string a0_0, .int .i64 a0_1, .int .i64 a0_2] 42 ?_; intro gb114 hg w9 hbox hb; have BK114 := zA hbox; have GW114 := zgs hg (zs0 HB); have GE114 := zgs hg (zs0 HB); replace HB := zE (zs0 HB) hb; clear hb hbox hg; obtain ⟨hcz10_0, hcz10_1, hcz10_2⟩ := zd3 BK114; obtain ⟨hfz10_0, hfz10_1, hfz10_2⟩ := zn3 BK114) | ((with_reducible refine gate_callee (f := 21) rfl ?_); refine zgl (N := some 5) Try.func21 #[.string a0_0] ?_; (with_reducible refine (spec_l11NameOk.calls k a0_0 true _ A2.out).mono ?_); rintro e w' ⟨rfl, ⟨nd, rfl⟩⟩; refine ⟨_, rfl, ?_⟩) | (go_at_call 22; (with_reducible refine (spec_l11In.calls a0_1 0 15 false _ A4.out).mono ?_); rintro e w' ⟨rfl, ⟨nd, rfl⟩⟩))
  go_ret
  exact ⟨ze, zs1 HB GE114⟩
 subst c5
 have H1 : ((spec_l11In.f a0_2 0 15).bind fun t117 => (some t117)) = some r := by rw [if_pos rfl] at H; exact H
 clear H
 have H := H1
 clear H1
 replace H := zbd H; obtain ⟨t117, A6, H⟩ := H
 obtain rfl := Option.some.inj H
 go_enter Try.func12, Try.ntmps12
 go_wp2_with (first | ((with_reducible refine gate_dst (N := 1) rfl ?_); refine zbx 1 #[.string a0_0, .int .i64 a0_1, .int .i64 a0_2] 42 ?_; intro gb114 hg w7 hbox hb; have BK114 := zA hbox; have GW114 := zgs hg (zs0 HB); have GE114 := zgs hg (zs0 HB); replace HB := zE (zs0 HB) hb; clear hb hbox hg; obtain ⟨hcz8_0, hcz8_1, hcz8_2⟩ := zd3 BK114; obtain ⟨hfz8_0, hfz8_1, hfz8_2⟩ := zn3 BK114) | ((with_reducible refine gate_callee (f := 21) rfl ?_); refine zgl (N := some 5) Try.func21 #[.string a0_0] ?_; (with_reducible refine (spec_l11NameOk.calls k a0_0 true _ A2.out).mono ?_); rintro e w' ⟨rfl, ⟨nd, rfl⟩⟩; refine ⟨_, rfl, ?_⟩) | (go_at_call 22; (with_reducible refine (spec_l11In.calls a0_1 0 15 true _ A4.out).mono ?_); rintro e w' ⟨rfl, ⟨nd, rfl⟩⟩) | (go_at_call 22; (with_reducible refine (spec_l11In.calls a0_2 0 15 t117 _ A6.out).mono ?_); rintro e w' ⟨rfl, ⟨nd, rfl⟩⟩))
 go_ret
 exact ⟨ze, zs1 HB GE114⟩
end Go.Proofs.Ytleenmphhlioaaa.QFnExactPlanBaseOk
