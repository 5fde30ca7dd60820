/- The walk of what the law FnExactPlanBaseOk reaches: laid by a program of this session (ownprint.py). -/
import Derived.Test.YtleenmphhlioaaaQFnExactPlanBaseOkx0
namespace Go.Proofs.Ytleenmphhlioaaa.QFnExactPlanBaseOk
open Go.RowKit Go.Proofs.YtleenmphhlioaaaW.PrintWords Go.Proofs.YtleenmphhlioaaaW.PrintLast Go.Proofs.YtleenmphhlioaaaW.PrintMore Go.Proofs.Ytleenmphhlioaaa.Z
attribute [local go_sem] max2_int min2_int max_two min_two max_three min_three max_four min_four zdn   -- for this text's walks alone
set_option linter.unusedVariables false
set_option linter.unusedSimpArgs false
mutual
def impl_isName.j0 : Nat → ByteArray → Bool → Option (Bool)
 | 0, _, _ => none
 | k + 1, x0, x12 => if x12 = true then (some false) else (impl_isName.l0 k x0 0)
def impl_isName.l0 : Nat → ByteArray → Int → Option (Bool)
 | 0, _, _ => none
 | k + 1, x0, x3 => if x3 < (x0.size : Int) then (if 0 ≤ x3 then (if (bt x0 x3) ≥ 97 then (if (bt x0 x3) ≤ 122 then (impl_isName.l0 k x0 (wrap64 (x3 + 1))) else (if (bt x0 x3) ≥ 48 then (if (bt x0 x3) ≤ 57 then (impl_isName.l0 k x0 (wrap64 (x3 + 1))) else (if ((bt x0 x3) = 45) then (impl_isName.l0 k x0 (wrap64 (x3 + 1))) else (some false))) else (if ((bt x0 x3) = 45) then (impl_isName.l0 k x0 (wrap64 (x3 + 1))) else (some false)))) else (if (bt x0 x3) ≥ 48 then (if (bt x0 x3) ≤ 57 then (impl_isName.l0 k x0 (wrap64 (x3 + 1))) else (if ((bt x0 x3) = 45) then (impl_isName.l0 k x0 (wrap64 (x3 + 1))) else (some false))) else (if ((bt x0 x3) = 45) then (impl_isName.l0 k x0 (wrap64 (x3 + 1))) else (some false)))) else (none)) else (some true)
end
def impl_isName.f (k : Nat) (a0 : ByteArray) : Option (Bool) := if (a0.size : Int) < 1 then (impl_isName.j0 k a0 true) else (impl_isName.j0 k a0 (decide ((a0.size : Int) > 8)))
set_option maxHeartbeats 8000000 in
set_option maxRecDepth 100000 in
theorem impl_isName.calls (k : Nat) (a0 : ByteArray) (r : Bool) (w : World) (h : impl_isName.f k a0 = some r) :
 Calls Try.prog 25 #[.string a0] w fun e w' => e = .returned (.bool r) ∧ Drawn0 w w' := by
 have H : (if (a0.size : Int) < 1 then (impl_isName.j0 k a0 true) else (impl_isName.j0 k a0 (decide ((a0.size : Int) > 8)))) = some r := h
 clear h
 have HC2 := Aside0.mk H
 clear H
 go_enter Try.func25, Try.ntmps25
 go_upto_region 1 with (fail)
 go_cut [12] (fun v12 wc => ∃ (kq : Nat) (x12_1 : Bool), v12 = .bool x12_1 ∧ Aside0 (impl_isName.j0 kq a0 x12_1 = some r) ∧ Aside0 (kq ≤ k) ∧ Drawn0 w wc)
 case first =>
  have H := HC2.out
  clear HC2
  by_cases c3 : (a0.size : Int) < 1
  ·rw [if_pos c3] at H
   have c3b0 : decide ((a0.size : Int) < 1) = true := decide_eq_true c3
   have c3b1 : decide (a0.size < 1) = true := decide_eq_true (by omega)
   clear c3
   (first | rw [c3b0] | (simp only [i64_w, i32_w]; rw [c3b0]) | skip)
   have H' := Aside0.mk H
   clear H
   go_wp2
   go_meet
   case rel => exact ⟨_, (true), zi, H', ⟨by first | omega | exact Nat.le_refl _⟩, by repeat (first | exact Drawn0.refl _ | apply Drawn0.step)⟩
  rw [if_neg c3] at H
  have c3b0 : decide ((a0.size : Int) < 1) = false := decide_eq_false c3
  have c3b1 : decide (a0.size < 1) = false := decide_eq_false (by omega)
  clear c3
  (first | rw [c3b0] | (simp only [i64_w, i32_w]; rw [c3b0]) | skip)
  have H' := Aside0.mk H
  clear H
  go_wp2
  go_meet
  case rel => exact ⟨_, (decide ((a0.size : Int) > 8)), zi, H', ⟨by first | omega | exact Nat.le_refl _⟩, by repeat (first | exact Drawn0.refl _ | apply Drawn0.step)⟩
 case rest =>
  clear HC2
  try clear c2
  try clear p2
  try clear c3
  try clear c3b0
  try clear c3b1
  obtain ⟨kq, x12_1, rfl, HA, HJ1, ⟨mc1, rfl⟩⟩ := hcut
  cases kq with
  | zero => exact absurd HA.out (by simp [impl_isName.j0])
  | succ kj1 =>
   have H := HA.out
   clear HA
   simp only [impl_isName.j0] at H
   by_cases c4 : x12_1 = true
   ·subst c4
    have H1 : (some false) = some r := by rw [if_pos rfl] at H; exact H
    clear H
    have H := H1
    clear H1
    obtain rfl := Option.some.inj H
    go_wp2
    go_ret
    exact ⟨by first | rfl | (simp; done) | (simp [*]; done), by repeat (first | exact Drawn0.refl _ | apply Drawn0.step)⟩
   replace c4 := Bool.eq_false_iff.mpr c4
   subst c4
   have H1 : (impl_isName.l0 kj1 a0 0) = some r := by rw [if_neg (show ¬ (false = true) by decide)] at H; exact H
   clear H
   have H := H1
   clear H1
   have H' := Aside0.mk H
   clear H
   go_wp2
   go_loopg [3] kj1 (fun kq v3 w' => ∃ (x3_2 : Int), v3 = .int .i64 x3_2 ∧ Aside0 (impl_isName.l0 kq a0 x3_2 = some r) ∧ Aside0 (kq ≤ kj1) ∧ Drawn0 w w')
   case atStart => exact ⟨(0), zi, H', ⟨Nat.le_refl _⟩, by repeat (first | exact Drawn0.refl _ | apply Drawn0.step)⟩
   case round =>
    clear H'
    try clear c1
    try clear c2
    try clear p2
    try clear c3
    try clear c3b0
    try clear c3b1
    try clear c4
    try clear p2
    obtain ⟨x3_2, rfl, HA, HK2, ⟨m2, rfl⟩⟩ := hrel
    cases gk with
    | zero => exact absurd HA.out (by simp [impl_isName.l0])
    | succ k2 =>
     have H := HA.out
     clear HA
     simp only [impl_isName.l0] at H
     by_cases c5 : x3_2 < (a0.size : Int)
     rotate_left
     ·rw [if_neg c5] at H
      have c5b0 : decide (x3_2 < (a0.size : Int)) = false := decide_eq_false c5
      clear c5
      obtain rfl := Option.some.inj H
      go_wp2
      go_ret
      exact ⟨by first | rfl | (simp; done) | (simp [*]; done), by repeat (first | exact Drawn0.refl _ | apply Drawn0.step)⟩
     rw [if_pos c5] at H
     have c5b0 : decide (x3_2 < (a0.size : Int)) = true := decide_eq_true c5
     clear c5
     by_cases c6 : 0 ≤ x3_2
     rotate_left
     ·rw [if_neg c6] at H
      exact absurd H (by simp)
     rw [if_pos c6] at H
     have c6b0 : decide (0 ≤ x3_2) = true := decide_eq_true c6
     clear c6
     by_cases c8 : (bt a0 x3_2) ≥ 97
     rotate_left
     ·rw [if_neg c8] at H
      have c8b0 : decide (97 ≤ (bt a0 x3_2)) = false := decide_eq_false c8
      clear c8
      by_cases c14 : (bt a0 x3_2) ≥ 48
      rotate_left
      ·rw [if_neg c14] at H
       have c14b0 : decide (48 ≤ (bt a0 x3_2)) = false := decide_eq_false c14
       clear c14
       by_cases c17 : ((bt a0 x3_2) = 45)
       rotate_left
       ·rw [if_neg c17] at H
        have c17b0 : ((bt a0 x3_2) == 45) = false := beq_eq_false_iff_ne.mpr c17
        have c17b1 : ((bt a0 x3_2) != 45) = true := bne_iff_ne.mpr c17
        obtain rfl := Option.some.inj H
        have p7 : 0 ≤ (x3_2 : Int) := za
        have q7 : x3_2 < (a0.size : Int) := za
        have hx7 := bt_at a0 x3_2
        replace p7 := eq_true p7
        replace q7 := eq_true q7
        go_wp2
        go_ret
        exact ⟨by first | rfl | (simp; done) | (simp [*]; done), by repeat (first | exact Drawn0.refl _ | apply Drawn0.step)⟩
       rw [if_pos c17] at H
       have c17b0 : ((bt a0 x3_2) == 45) = true := beq_iff_eq.mpr c17
       have c17b1 : ((bt a0 x3_2) != 45) = false := bne_eq_false_iff_eq.mpr c17
       clear c17
       have H' := Aside0.mk H
       clear H
       have p7 : 0 ≤ (x3_2 : Int) := za
       have q7 : x3_2 < (a0.size : Int) := za
       have hx7 := bt_at a0 x3_2
       replace p7 := eq_true p7
       replace q7 := eq_true q7
       go_wp2
       go_roundg k2
       case measure => have := HJ1.out; have := HK2.out; omega
       case rel => exact ⟨(wrap64 (x3_2 + 1)), zi, H', ⟨by have := HJ1.out; have := HK2.out; omega⟩, by repeat (first | exact Drawn0.refl _ | apply Drawn0.step)⟩
      rw [if_pos c14] at H
      have c14b0 : decide (48 ≤ (bt a0 x3_2)) = true := decide_eq_true c14
      clear c14
      by_cases c15 : (bt a0 x3_2) ≤ 57
      ·rw [if_pos c15] at H
       have c15b0 : decide ((bt a0 x3_2) ≤ 57) = true := decide_eq_true c15
       clear c15
       have H' := Aside0.mk H
       clear H
       have p7 : 0 ≤ (x3_2 : Int) := za
       have q7 : x3_2 < (a0.size : Int) := za
       have hx7 := bt_at a0 x3_2
       replace p7 := eq_true p7
       replace q7 := eq_true q7
       go_wp2
       go_roundg k2
       case measure => have := HJ1.out; have := HK2.out; omega
       case rel => exact ⟨(wrap64 (x3_2 + 1)), zi, H', ⟨by have := HJ1.out; have := HK2.out; omega⟩, by repeat (first | exact Drawn0.refl _ | apply Drawn0.step)⟩
      rw [if_neg c15] at H
      have c15b0 : decide ((bt a0 x3_2) ≤ 57) = false := decide_eq_false c15
      clear c15
      by_cases c16 : ((bt a0 x3_2) = 45)
      rotate_left
      ·rw [if_neg c16] at H
       have c16b0 : ((bt a0 x3_2) == 45) = false := beq_eq_false_iff_ne.mpr c16
       have c16b1 : ((bt a0 x3_2) != 45) = true := bne_iff_ne.mpr c16
       obtain rfl := Option.some.inj H
       have p7 : 0 ≤ (x3_2 : Int) := za
       have q7 : x3_2 < (a0.size : Int) := za
       have hx7 := bt_at a0 x3_2
       replace p7 := eq_true p7
       replace q7 := eq_true q7
       go_wp2
       go_ret
       exact ⟨by first | rfl | (simp; done) | (simp [*]; done), by repeat (first | exact Drawn0.refl _ | apply Drawn0.step)⟩
      rw [if_pos c16] at H
      have c16b0 : ((bt a0 x3_2) == 45) = true := beq_iff_eq.mpr c16
      have c16b1 : ((bt a0 x3_2) != 45) = false := bne_eq_false_iff_eq.mpr c16
      clear c16
      have H' := Aside0.mk H
      clear H
      have p7 : 0 ≤ (x3_2 : Int) := za
      have q7 : x3_2 < (a0.size : Int) := za
      have hx7 := bt_at a0 x3_2
      replace p7 := eq_true p7
      replace q7 := eq_true q7
      go_wp2
      go_roundg k2
      case measure => have := HJ1.out; have := HK2.out; omega
      case rel => exact ⟨(wrap64 (x3_2 + 1)), zi, H', ⟨by have := HJ1.out; have := HK2.out; omega⟩, by repeat (first | exact Drawn0.refl _ | apply Drawn0.step)⟩
     rw [if_pos c8] at H
     have c8b0 : decide (97 ≤ (bt a0 x3_2)) = true := decide_eq_true c8
     clear c8
     by_cases c9 : (bt a0 x3_2) ≤ 122
     ·rw [if_pos c9] at H
      have c9b0 : decide ((bt a0 x3_2) ≤ 122) = true := decide_eq_true c9
      clear c9
      have H' := Aside0.mk H
      clear H
      have p7 : 0 ≤ (x3_2 : Int) := za
      have q7 : x3_2 < (a0.size : Int) := za
      have hx7 := bt_at a0 x3_2
      replace p7 := eq_true p7
      replace q7 := eq_true q7
      go_wp2
      go_roundg k2
      case measure => have := HJ1.out; have := HK2.out; omega
      case rel => exact ⟨(wrap64 (x3_2 + 1)), zi, H', ⟨by have := HJ1.out; have := HK2.out; omega⟩, by repeat (first | exact Drawn0.refl _ | apply Drawn0.step)⟩
     rw [if_neg c9] at H
     have c9b0 : decide ((bt a0 x3_2) ≤ 122) = false := decide_eq_false c9
     clear c9
     by_cases c10 : (bt a0 x3_2) ≥ 48
     rotate_left
     ·rw [if_neg c10] at H
      have c10b0 : decide (48 ≤ (bt a0 x3_2)) = false := decide_eq_false c10
      clear c10
      by_cases c13 : ((bt a0 x3_2) = 45)
      rotate_left
      ·rw [if_neg c13] at H
       have c13b0 : ((bt a0 x3_2) == 45) = false := beq_eq_false_iff_ne.mpr c13
       have c13b1 : ((bt a0 x3_2) != 45) = true := bne_iff_ne.mpr c13
       obtain rfl := Option.some.inj H
       have p7 : 0 ≤ (x3_2 : Int) := za
       have q7 : x3_2 < (a0.size : Int) := za
       have hx7 := bt_at a0 x3_2
       replace p7 := eq_true p7
       replace q7 := eq_true q7
       go_wp2
       go_ret
       exact ⟨by first | rfl | (simp; done) | (simp [*]; done), by repeat (first | exact Drawn0.refl _ | apply Drawn0.step)⟩
      rw [if_pos c13] at H
      have c13b0 : ((bt a0 x3_2) == 45) = true := beq_iff_eq.mpr c13
      have c13b1 : ((bt a0 x3_2) != 45) = false := bne_eq_false_iff_eq.mpr c13
      clear c13
      have H' := Aside0.mk H
      clear H
      have p7 : 0 ≤ (x3_2 : Int) := za
      have q7 : x3_2 < (a0.size : Int) := za
      have hx7 := bt_at a0 x3_2
      replace p7 := eq_true p7
      replace q7 := eq_true q7
      go_wp2
      go_roundg k2
      case measure => have := HJ1.out; have := HK2.out; omega
      case rel => exact ⟨(wrap64 (x3_2 + 1)), zi, H', ⟨by have := HJ1.out; have := HK2.out; omega⟩, by repeat (first | exact Drawn0.refl _ | apply Drawn0.step)⟩
     rw [if_pos c10] at H
     have c10b0 : decide (48 ≤ (bt a0 x3_2)) = true := decide_eq_true c10
     clear c10
     by_cases c11 : (bt a0 x3_2) ≤ 57
     ·rw [if_pos c11] at H
      have c11b0 : decide ((bt a0 x3_2) ≤ 57) = true := decide_eq_true c11
      clear c11
      have H' := Aside0.mk H
      clear H
      have p7 : 0 ≤ (x3_2 : Int) := za
      have q7 : x3_2 < (a0.size : Int) := za
      have hx7 := bt_at a0 x3_2
      replace p7 := eq_true p7
      replace q7 := eq_true q7
      go_wp2
      go_roundg k2
      case measure => have := HJ1.out; have := HK2.out; omega
      case rel => exact ⟨(wrap64 (x3_2 + 1)), zi, H', ⟨by have := HJ1.out; have := HK2.out; omega⟩, by repeat (first | exact Drawn0.refl _ | apply Drawn0.step)⟩
     rw [if_neg c11] at H
     have c11b0 : decide ((bt a0 x3_2) ≤ 57) = false := decide_eq_false c11
     clear c11
     by_cases c12 : ((bt a0 x3_2) = 45)
     rotate_left
     ·rw [if_neg c12] at H
      have c12b0 : ((bt a0 x3_2) == 45) = false := beq_eq_false_iff_ne.mpr c12
      have c12b1 : ((bt a0 x3_2) != 45) = true := bne_iff_ne.mpr c12
      obtain rfl := Option.some.inj H
      have p7 : 0 ≤ (x3_2 : Int) := za
      have q7 : x3_2 < (a0.size : Int) := za
      have hx7 := bt_at a0 x3_2
      replace p7 := eq_true p7
      replace q7 := eq_true q7
      go_wp2
      go_ret
      exact ⟨by first | rfl | (simp; done) | (simp [*]; done), by repeat (first | exact Drawn0.refl _ | apply Drawn0.step)⟩
     rw [if_pos c12] at H
     have c12b0 : ((bt a0 x3_2) == 45) = true := beq_iff_eq.mpr c12
     have c12b1 : ((bt a0 x3_2) != 45) = false := bne_eq_false_iff_eq.mpr c12
     clear c12
     have H' := Aside0.mk H
     clear H
     have p7 : 0 ≤ (x3_2 : Int) := za
     have q7 : x3_2 < (a0.size : Int) := za
     have hx7 := bt_at a0 x3_2
     replace p7 := eq_true p7
     replace q7 := eq_true q7
     go_wp2
     go_roundg k2
     case measure => have := HJ1.out; have := HK2.out; omega
     case rel => exact ⟨(wrap64 (x3_2 + 1)), zi, H', ⟨by have := HJ1.out; have := HK2.out; omega⟩, by repeat (first | exact Drawn0.refl _ | apply Drawn0.step)⟩
def impl_kindOk.f (k : Nat) (a0_0 : ByteArray) (a0_1 : Int) (a0_2 : Int) : Option (Bool) := (impl_isName.f k a0_0).bind fun t163 => (if t163 = true then (if 1 ≤ a0_1 then (if a0_1 ≤ a0_2 then (some (decide (a0_2 ≤ 50))) else (some false)) else (some false)) else (some false))
set_option maxHeartbeats 8000000 in
set_option maxRecDepth 100000 in
theorem impl_kindOk.calls (k : Nat) (a0_0 : ByteArray) (a0_1 : Int) (a0_2 : Int) (r : Bool) (w : World) (h : impl_kindOk.f k a0_0 a0_1 a0_2 = some r) :
 Calls Try.prog 15 #[.agg #[.string a0_0, .int .i64 a0_1, .int .i64 a0_2]] w fun e w' => e = .returned (.bool r) ∧ Below w.heap.size w w' := by
 have hu39 := Try.underlying39
 have HB := Aside0.mk (Below.refl w.heap.size w)
 have H : ((impl_isName.f k a0_0).bind fun t163 => (if t163 = true then (if 1 ≤ a0_1 then (if a0_1 ≤ a0_2 then (some (decide (a0_2 ≤ 50))) else (some false)) else (some false)) else (some false))) = some r := h
 clear h
 replace H := zbd H; obtain ⟨t163, A2, H⟩ := H
 by_cases c3 : t163 = true
 rotate_left
 ·replace c3 := Bool.eq_false_iff.mpr c3
  subst c3
  have H1 : (some false) = some r := by rw [if_neg (show ¬ (false = true) by decide)] at H; exact H
  clear H
  have H := H1
  clear H1
  obtain rfl := Option.some.inj H
  go_enter Try.func15, Try.ntmps15
  go_wp2_with (first | ((with_reducible refine gate_dst (N := 1) rfl ?_); refine zbx 1 #[.string a0_0, .int .i64 a0_1, .int .i64 a0_2] 39 ?_; intro gb162 hg w12 hbox hb; have BK162 := zA hbox; have GW162 := zgs hg (zs0 HB); have GE162 := zgs hg (zs0 HB); replace HB := zE (zs0 HB) hb; clear hb hbox hg; obtain ⟨hcz13_0, hcz13_1, hcz13_2⟩ := zd3 BK162; obtain ⟨hfz13_0, hfz13_1, hfz13_2⟩ := zn3 BK162) | ((with_reducible refine gate_callee (f := 25) rfl ?_); refine zgl (N := some 5) Try.func25 #[.string a0_0] ?_; (with_reducible refine (impl_isName.calls k a0_0 false _ A2.out).mono ?_); rintro e w' ⟨rfl, ⟨nd, rfl⟩⟩; refine ⟨_, rfl, ?_⟩))
  go_ret
  exact ⟨ze, zs1 HB GE162⟩
 subst c3
 have H1 : (if 1 ≤ a0_1 then (if a0_1 ≤ a0_2 then (some (decide (a0_2 ≤ 50))) else (some false)) else (some false)) = some r := by rw [if_pos rfl] at H; exact H
 clear H
 have H := H1
 clear H1
 by_cases c4 : 1 ≤ a0_1
 rotate_left
 ·rw [if_neg c4] at H
  have c4b0 : decide (1 ≤ a0_1) = false := decide_eq_false c4
  clear c4
  obtain rfl := Option.some.inj H
  go_enter Try.func15, Try.ntmps15
  go_wp2_with (first | ((with_reducible refine gate_dst (N := 1) rfl ?_); refine zbx 1 #[.string a0_0, .int .i64 a0_1, .int .i64 a0_2] 39 ?_; intro gb162 hg w10 hbox hb; have BK162 := zA hbox; have GW162 := zgs hg (zs0 HB); have GE162 := zgs hg (zs0 HB); replace HB := zE (zs0 HB) hb; clear hb hbox hg; obtain ⟨hcz11_0, hcz11_1, hcz11_2⟩ := zd3 BK162; obtain ⟨hfz11_0, hfz11_1, hfz11_2⟩ := zn3 BK162) | ((with_reducible refine gate_callee (f := 25) rfl ?_); refine zgl (N := some 5) Try.func25 #[.string a0_0] ?_; (with_reducible refine (impl_isName.calls k a0_0 true _ A2.out).mono ?_); rintro e w' ⟨rfl, ⟨nd, rfl⟩⟩; refine ⟨_, rfl, ?_⟩))
  go_ret
  exact ⟨ze, zs1 HB GE162⟩
 rw [if_pos c4] at H
 have c4b0 : decide (1 ≤ a0_1) = true := decide_eq_true c4
 clear c4
 by_cases c5 : a0_1 ≤ a0_2
 ·rw [if_pos c5] at H
  have c5b0 : decide (a0_1 ≤ a0_2) = true := decide_eq_true c5
  clear c5
  obtain rfl := Option.some.inj H
  go_enter Try.func15, Try.ntmps15
  go_wp2_with (first | ((with_reducible refine gate_dst (N := 1) rfl ?_); refine zbx 1 #[.string a0_0, .int .i64 a0_1, .int .i64 a0_2] 39 ?_; intro gb162 hg w6 hbox hb; have BK162 := zA hbox; have GW162 := zgs hg (zs0 HB); have GE162 := zgs hg (zs0 HB); replace HB := zE (zs0 HB) hb; clear hb hbox hg; obtain ⟨hcz7_0, hcz7_1, hcz7_2⟩ := zd3 BK162; obtain ⟨hfz7_0, hfz7_1, hfz7_2⟩ := zn3 BK162) | ((with_reducible refine gate_callee (f := 25) rfl ?_); refine zgl (N := some 5) Try.func25 #[.string a0_0] ?_; (with_reducible refine (impl_isName.calls k a0_0 true _ A2.out).mono ?_); rintro e w' ⟨rfl, ⟨nd, rfl⟩⟩; refine ⟨_, rfl, ?_⟩))
  go_ret
  exact ⟨ze, zs1 HB GE162⟩
 rw [if_neg c5] at H
 have c5b0 : decide (a0_1 ≤ a0_2) = false := decide_eq_false c5
 clear c5
 obtain rfl := Option.some.inj H
 go_enter Try.func15, Try.ntmps15
 go_wp2_with (first | ((with_reducible refine gate_dst (N := 1) rfl ?_); refine zbx 1 #[.string a0_0, .int .i64 a0_1, .int .i64 a0_2] 39 ?_; intro gb162 hg w8 hbox hb; have BK162 := zA hbox; have GW162 := zgs hg (zs0 HB); have GE162 := zgs hg (zs0 HB); replace HB := zE (zs0 HB) hb; clear hb hbox hg; obtain ⟨hcz9_0, hcz9_1, hcz9_2⟩ := zd3 BK162; obtain ⟨hfz9_0, hfz9_1, hfz9_2⟩ := zn3 BK162) | ((with_reducible refine gate_callee (f := 25) rfl ?_); refine zgl (N := some 5) Try.func25 #[.string a0_0] ?_; (with_reducible refine (impl_isName.calls k a0_0 true _ A2.out).mono ?_); rintro e w' ⟨rfl, ⟨nd, rfl⟩⟩; refine ⟨_, rfl, ?_⟩))
 go_ret
 exact ⟨ze, zs1 HB GE162⟩
def impl_within.f (a0 : Int) (a1 : Int) (a2 : Int) : Option (Bool) := if a0 ≥ a1 then (some (decide (a0 ≤ a2))) else (some false)
set_option maxHeartbeats 8000000 in
set_option maxRecDepth 100000 in
theorem impl_within.calls (a0 : Int) (a1 : Int) (a2 : Int) (r : Bool) (w : World) (h : impl_within.f a0 a1 a2 = some r) :
 Calls Try.prog 26 #[.int .i64 a0, .int .i64 a1, .int .i64 a2] w fun e w' => e = .returned (.bool r) ∧ Drawn0 w w' := by
 have H : (if a0 ≥ a1 then (some (decide (a0 ≤ a2))) else (some false)) = some r := h
 clear h
 by_cases c4 : a0 ≥ a1
 ·rw [if_pos c4] at H
  have c4b0 : decide (a1 ≤ a0) = true := decide_eq_true c4
  clear c4
  obtain rfl := Option.some.inj H
  go_enter Try.func26, Try.ntmps26
  go_wp2
  go_ret
  exact ⟨by first | rfl | (simp; done) | (simp [*]; done), by repeat (first | exact Drawn0.refl _ | apply Drawn0.step)⟩
 rw [if_neg c4] at H
 have c4b0 : decide (a1 ≤ a0) = false := decide_eq_false c4
 clear c4
 obtain rfl := Option.some.inj H
 go_enter Try.func26, Try.ntmps26
 go_wp2
 go_ret
 exact ⟨by first | rfl | (simp; done) | (simp [*]; done), by repeat (first | exact Drawn0.refl _ | apply Drawn0.step)⟩
def impl_pointOk.f (k : Nat) (a0_0 : ByteArray) (a0_1 : Int) (a0_2 : Int) : Option (Bool) := (impl_isName.f k a0_0).bind fun t165 => (if t165 = true then ((impl_within.f a0_1 0 15).bind fun t166 => (if t166 = true then ((impl_within.f a0_2 0 15).bind fun t167 => (some t167)) else (some false))) else (some false))
set_option maxHeartbeats 8000000 in
set_option maxRecDepth 100000 in
theorem impl_pointOk.calls (k : Nat) (a0_0 : ByteArray) (a0_1 : Int) (a0_2 : Int) (r : Bool) (w : World) (h : impl_pointOk.f k a0_0 a0_1 a0_2 = some r) :
 Calls Try.prog 16 #[.agg #[.string a0_0, .int .i64 a0_1, .int .i64 a0_2]] w fun e w' => e = .returned (.bool r) ∧ Below w.heap.size w w' := by
 have hu42 := Try.underlying42
 have HB := Aside0.mk (Below.refl w.heap.size w)
 have H : ((impl_isName.f k a0_0).bind fun t165 => (if t165 = true then ((impl_within.f a0_1 0 15).bind fun t166 => (if t166 = true then ((impl_within.f a0_2 0 15).bind fun t167 => (some t167)) else (some false))) else (some false))) = some r := h
 clear h
 replace H := zbd H; obtain ⟨t165, A2, H⟩ := H
 by_cases c3 : t165 = true
 rotate_left
 ·replace c3 := Bool.eq_false_iff.mpr c3
  subst c3
  have H1 : (some false) = some r := by rw [if_neg (show ¬ (false = true) by decide)] at H; exact H
  clear H
  have H := H1
  clear H1
  obtain rfl := Option.some.inj H
  go_enter Try.func16, Try.ntmps16
  go_wp2_with (first | ((with_reducible refine gate_dst (N := 1) rfl ?_); refine zbx 1 #[.string a0_0, .int .i64 a0_1, .int .i64 a0_2] 42 ?_; intro gb164 hg w11 hbox hb; have BK164 := zA hbox; have GW164 := zgs hg (zs0 HB); have GE164 := zgs hg (zs0 HB); replace HB := zE (zs0 HB) hb; clear hb hbox hg; obtain ⟨hcz12_0, hcz12_1, hcz12_2⟩ := zd3 BK164; obtain ⟨hfz12_0, hfz12_1, hfz12_2⟩ := zn3 BK164) | ((with_reducible refine gate_callee (f := 25) rfl ?_); refine zgl (N := some 5) Try.func25 #[.string a0_0] ?_; (with_reducible refine (impl_isName.calls k a0_0 false _ A2.out).mono ?_); rintro e w' ⟨rfl, ⟨nd, rfl⟩⟩; refine ⟨_, rfl, ?_⟩))
  go_ret
  exact ⟨ze, zs1 HB GE164⟩
 subst c3
 have H1 : ((impl_within.f a0_1 0 15).bind fun t166 => (if t166 = true then ((impl_within.f a0_2 0 15).bind fun t167 => (some t167)) else (some false))) = some r := by rw [if_pos rfl] at H; exact H
 clear H
 have H := H1
 clear H1
 replace H := zbd H; obtain ⟨t166, A4, H⟩ := H
 by_cases c5 : t166 = true
 rotate_left
 ·replace c5 := Bool.eq_false_iff.mpr c5
  subst c5
  have H1 : (some false) = some r := by rw [if_neg (show ¬ (false = true) by decide)] at H; exact H
  clear H
  have H := H1
  clear H1
  obtain rfl := Option.some.inj H
  go_enter Try.func16, Try.ntmps16
  go_wp2_with (first | ((with_reducible refine gate_dst (N := 1) rfl ?_); refine zbx 1 #[.string a0_0, .int .i64 a0_1, .int .i64 a0_2] 42 ?_; intro gb164 hg w9 hbox hb; have BK164 := zA hbox; have GW164 := zgs hg (zs0 HB); have GE164 := zgs hg (zs0 HB); replace HB := zE (zs0 HB) hb; clear hb hbox hg; obtain ⟨hcz10_0, hcz10_1, hcz10_2⟩ := zd3 BK164; obtain ⟨hfz10_0, hfz10_1, hfz10_2⟩ := zn3 BK164) | ((with_reducible refine gate_callee (f := 25) rfl ?_); refine zgl (N := some 5) Try.func25 #[.string a0_0] ?_; (with_reducible refine (impl_isName.calls k a0_0 true _ A2.out).mono ?_); rintro e w' ⟨rfl, ⟨nd, rfl⟩⟩; refine ⟨_, rfl, ?_⟩) | (go_at_call 26; (with_reducible refine (impl_within.calls a0_1 0 15 false _ A4.out).mono ?_); rintro e w' ⟨rfl, ⟨nd, rfl⟩⟩))
  go_ret
  exact ⟨ze, zs1 HB GE164⟩
 subst c5
 have H1 : ((impl_within.f a0_2 0 15).bind fun t167 => (some t167)) = some r := by rw [if_pos rfl] at H; exact H
 clear H
 have H := H1
 clear H1
 replace H := zbd H; obtain ⟨t167, A6, H⟩ := H
 obtain rfl := Option.some.inj H
 go_enter Try.func16, Try.ntmps16
 go_wp2_with (first | ((with_reducible refine gate_dst (N := 1) rfl ?_); refine zbx 1 #[.string a0_0, .int .i64 a0_1, .int .i64 a0_2] 42 ?_; intro gb164 hg w7 hbox hb; have BK164 := zA hbox; have GW164 := zgs hg (zs0 HB); have GE164 := zgs hg (zs0 HB); replace HB := zE (zs0 HB) hb; clear hb hbox hg; obtain ⟨hcz8_0, hcz8_1, hcz8_2⟩ := zd3 BK164; obtain ⟨hfz8_0, hfz8_1, hfz8_2⟩ := zn3 BK164) | ((with_reducible refine gate_callee (f := 25) rfl ?_); refine zgl (N := some 5) Try.func25 #[.string a0_0] ?_; (with_reducible refine (impl_isName.calls k a0_0 true _ A2.out).mono ?_); rintro e w' ⟨rfl, ⟨nd, rfl⟩⟩; refine ⟨_, rfl, ?_⟩) | (go_at_call 26; (with_reducible refine (impl_within.calls a0_1 0 15 true _ A4.out).mono ?_); rintro e w' ⟨rfl, ⟨nd, rfl⟩⟩) | (go_at_call 26; (with_reducible refine (impl_within.calls a0_2 0 15 t167 _ A6.out).mono ?_); rintro e w' ⟨rfl, ⟨nd, rfl⟩⟩))
 go_ret
 exact ⟨ze, zs1 HB GE164⟩
end Go.Proofs.Ytleenmphhlioaaa.QFnExactPlanBaseOk
