/- The walk of what the law FnSkyWords reaches: laid by a program of this session (ownprint.py). -/
import Derived.Test.YtnmjmhhkbcnccaaDoorQFnSkyWordsx0
import Derived.Test.YtnmjmhhkbcnccaaDoorQFnSkyWordsx1
namespace Go.Proofs.YtnmjmhhkbcnccaaDoor.QFnSkyWords
open Go.RowKit Go.Proofs.YtnmjmhhkbcnccaaDoorW.PrintWords Go.Proofs.YtnmjmhhkbcnccaaDoorW.PrintLast Go.Proofs.YtnmjmhhkbcnccaaDoorW.PrintMore Go.Proofs.YtnmjmhhkbcnccaaDoor.Z
attribute [local go_sem] max2_int min2_int max_two min_two max_three min_three max_four min_four zdn   -- for this text's walks alone
set_option linter.unusedVariables false
set_option linter.unusedSimpArgs false
def spec_DrawSkyWords.l0 : Nat → ByteArray → Int → List Int → Int → Option (ByteArray)
 | 0, _, _, _, _ => none
 | k + 1, x4, x5, x113000, x113001 => if x5 > 0 then ((spec_l1Rd_pick.f k x113000 x113001 24).bind fun bt115 => (if bt115.1 = 0 then (if x4.size + 1 ≤ 9223372036854775807 then ((spec_l1Rd_pick.f k x113000 bt115.2 3).bind fun bt117 => ((spec_l1Rd_pick.f k x113000 bt117.2 2).bind fun bt119 => ((spec_l1Many.f k (⟨#[32]⟩ : ByteArray) (wrap64 (bt117.1 + bt119.1))).bind fun t121 => (if (x4 ++ (⟨#[35]⟩ : ByteArray)).size + t121.size ≤ 9223372036854775807 then (spec_DrawSkyWords.l0 k ((x4 ++ (⟨#[35]⟩ : ByteArray)) ++ t121) (wrap64 (x5 - 1)) x113000 bt119.2) else (none))))) else (none)) else (if bt115.1 = 1 then ((spec_l1Rd_of.f k x113000 bt115.2 (([(⟨#[127]⟩ : ByteArray), (⟨#[9]⟩ : ByteArray), (⟨#[0]⟩ : ByteArray), (⟨#[195, 169]⟩ : ByteArray)] : List ByteArray))).bind fun bt125 => (if x4.size + bt125.1.size ≤ 9223372036854775807 then ((spec_l1Rd_pick.f k x113000 bt125.2 3).bind fun bt127 => ((spec_l1Rd_pick.f k x113000 bt127.2 2).bind fun bt129 => ((spec_l1Many.f k (⟨#[32]⟩ : ByteArray) (wrap64 (bt127.1 + bt129.1))).bind fun t131 => (if (x4 ++ bt125.1).size + t131.size ≤ 9223372036854775807 then (spec_DrawSkyWords.l0 k ((x4 ++ bt125.1) ++ t131) (wrap64 (x5 - 1)) x113000 bt129.2) else (none))))) else (none))) else (if bt115.1 = 2 then ((spec_l1Rd_pick.f k x113000 bt115.2 2).bind fun bt132 => ((spec_l1Many.f k (⟨#[119]⟩ : ByteArray) (wrap64 (24 + bt132.1))).bind fun t134 => (if x4.size + t134.size ≤ 9223372036854775807 then ((spec_l1Rd_pick.f k x113000 bt132.2 3).bind fun bt135 => ((spec_l1Rd_pick.f k x113000 bt135.2 2).bind fun bt137 => ((spec_l1Many.f k (⟨#[32]⟩ : ByteArray) (wrap64 (bt135.1 + bt137.1))).bind fun t139 => (if (x4 ++ t134).size + t139.size ≤ 9223372036854775807 then (spec_DrawSkyWords.l0 k ((x4 ++ t134) ++ t139) (wrap64 (x5 - 1)) x113000 bt137.2) else (none))))) else (none)))) else ((spec_l1Rd_of.f k x113000 bt115.2 (([(⟨#[112, 111, 105, 110, 116]⟩ : ByteArray), (⟨#[97]⟩ : ByteArray), (⟨#[49, 50]⟩ : ByteArray), (⟨#[33]⟩ : ByteArray), (⟨#[126]⟩ : ByteArray)] : List ByteArray))).bind fun bt143 => (if x4.size + bt143.1.size ≤ 9223372036854775807 then ((spec_l1Rd_pick.f k x113000 bt143.2 3).bind fun bt145 => ((spec_l1Rd_pick.f k x113000 bt145.2 2).bind fun bt147 => ((spec_l1Many.f k (⟨#[32]⟩ : ByteArray) (wrap64 (bt145.1 + bt147.1))).bind fun t149 => (if (x4 ++ bt143.1).size + t149.size ≤ 9223372036854775807 then (spec_DrawSkyWords.l0 k ((x4 ++ bt143.1) ++ t149) (wrap64 (x5 - 1)) x113000 bt147.2) else (none))))) else (none))))))) else (some x4)
def spec_DrawSkyWords.f (k : Nat) (l0 : List Int) : Option (ByteArray) := (spec_l1Open.f l0).bind fun bt110 => ((spec_l1Rd_pick.f k bt110.1 bt110.2 15).bind fun bt113 => (spec_DrawSkyWords.l0 k (⟨#[]⟩ : ByteArray) bt113.1 bt110.1 bt113.2))
set_option maxHeartbeats 8000000 in
set_option maxRecDepth 100000 in
theorem spec_DrawSkyWords.calls (k : Nat) (A0 : Option Addr) (c0 : Nat) (l0 : List Int) (r : ByteArray) (w : World) (hr0 : Kd.C (Kd.int .u8) w A0 l0.length l0) (hc0 : l0.length ≤ c0) (h : spec_DrawSkyWords.f k l0 = some r) :
 Calls Tryd.prog 4 #[.slice A0 l0.length c0] w fun e w' => e = .returned (.string r) ∧ Below w.heap.size w w' := by
 have HR0 := Aside0.mk hr0
 have HC0 := Aside0.mk hc0
 clear hr0 hc0
 have HB := Aside0.mk (Below.refl w.heap.size w)
 have H : ((spec_l1Open.f l0).bind fun bt110 => ((spec_l1Rd_pick.f k bt110.1 bt110.2 15).bind fun bt113 => (spec_DrawSkyWords.l0 k (⟨#[]⟩ : ByteArray) bt113.1 bt110.1 bt113.2))) = some r := h
 clear h
 replace H := Option.bind_eq_some_iff.mp H
 obtain ⟨⟨t110, t111⟩, A20, H⟩ := H
 replace H : ((spec_l1Rd_pick.f k t110 t111 15).bind fun bt113 => (spec_DrawSkyWords.l0 k (⟨#[]⟩ : ByteArray) bt113.1 t110 bt113.2)) = some r := H
 have A2 := Aside0.mk A20
 clear A20
 replace H := Option.bind_eq_some_iff.mp H
 obtain ⟨⟨t113, t114⟩, A30, H⟩ := H
 replace H : (spec_DrawSkyWords.l0 k (⟨#[]⟩ : ByteArray) t113 t110 t114) = some r := H
 have A3 := Aside0.mk A30
 clear A30
 have H' := Aside0.mk H
 clear H
 go_enter Tryd.func4, Tryd.ntmps4
 go_wp2_with (first | ((with_reducible refine gate_callee (f := 8) rfl ?_); refine goesL_ (some 7) rfl rfl Tryd.func8 (by kernel_rfl) rfl #[.slice A0 l0.length c0] rfl zl ?_; (with_reducible refine (spec_l1Open.calls _ _ l0 t110 t111 w _ ?side1 ?side2 ?side3 A2.out).mono ?_); (case side1 => repeat (first | (with_reducible first | exact HB.out | apply below_alloc | apply pw_below_drewN | apply below_drew1) | exact HB.out)); (case side2 => exact HR0.out); (case side3 => exact HC0.out); rintro e w4 ⟨g112, rfl, hi, hb, hb2⟩; refine ⟨_, rfl, ?_⟩; have HI112 := Aside0.mk (hi); replace HB := Aside0.mk (hb); (try clear hb); (try clear hb2); (try clear hk); (try clear hi)) | ((with_reducible refine gate_callee (f := 9) rfl ?_); refine goesL_ (some 9) rfl rfl Tryd.func9 (by kernel_rfl) rfl #[.pointer (some ⟨g112, 0, none⟩), .int .i64 15] rfl zl ?_; (with_reducible refine (spec_l1Rd_pick.calls k g112 t110 t111 15 t113 t114 w _ ?side1 ?side2 A3.out).mono ?_); (case side1 => exact zI0 HI112); (case side2 => exact zB0 HI112 HB); rintro e w5 ⟨rfl, hi, hb, hk⟩; refine ⟨_, rfl, ?_⟩; replace HB := Aside0.mk (hb); replace HI112 := Aside0.mk (hi); (try clear hb); (try clear hb2); (try clear hk); (try clear hi)))
 go_loopg [4, 5] k (fun kq v4 v5 w' => ∃ (x4_1 : ByteArray) (x5_1 : Int) (x113001_1 : Int), v4 = .string x4_1 ∧ v5 = .int .i64 x5_1 ∧ Aside0 (spec_DrawSkyWords.l0 kq x4_1 x5_1 t110 x113001_1 = some r) ∧ Aside0 (kq ≤ k) ∧ Aside0 (IsS40 w w' g112 t110 x113001_1) ∧ Aside0 (Below w.heap.size w w'))
 case atStart => exact ⟨((⟨#[]⟩ : ByteArray)), (t113), (t114), zi, zi, H', ⟨Nat.le_refl _⟩, ⟨zI0 HI112⟩, ⟨zB0 HI112 HB⟩⟩
 case round =>
  clear H'
  try clear p2
  try clear c4
  obtain ⟨x4_1, x5_1, x113001_1, rfl, rfl, HA, HK1, HI112, HB⟩ := hrel
  cases gk with
  | zero => exact absurd HA.out (by simp [spec_DrawSkyWords.l0])
  | succ k1 =>
   have H := HA.out
   clear HA
   simp only [spec_DrawSkyWords.l0] at H
   by_cases c6 : x5_1 > 0
   rotate_left
   ·rw [if_neg c6] at H
    have c6b0 : decide (0 < x5_1) = false := decide_eq_false c6
    clear c6
    obtain rfl := Option.some.inj H
    go_wp2
    go_ret
    exact ⟨ze, zB0 HI112 HB⟩
   rw [if_pos c6] at H
   have c6b0 : decide (0 < x5_1) = true := decide_eq_true c6
   clear c6
   replace H := Option.bind_eq_some_iff.mp H
   obtain ⟨⟨t115, t116⟩, A70, H⟩ := H
   replace H : (if t115 = 0 then (if x4_1.size + 1 ≤ 9223372036854775807 then ((spec_l1Rd_pick.f k1 t110 t116 3).bind fun bt117 => ((spec_l1Rd_pick.f k1 t110 bt117.2 2).bind fun bt119 => ((spec_l1Many.f k1 (⟨#[32]⟩ : ByteArray) (wrap64 (bt117.1 + bt119.1))).bind fun t121 => (if (x4_1 ++ (⟨#[35]⟩ : ByteArray)).size + t121.size ≤ 9223372036854775807 then (spec_DrawSkyWords.l0 k1 ((x4_1 ++ (⟨#[35]⟩ : ByteArray)) ++ t121) (wrap64 (x5_1 - 1)) t110 bt119.2) else (none))))) else (none)) else (if t115 = 1 then ((spec_l1Rd_of.f k1 t110 t116 (([(⟨#[127]⟩ : ByteArray), (⟨#[9]⟩ : ByteArray), (⟨#[0]⟩ : ByteArray), (⟨#[195, 169]⟩ : ByteArray)] : List ByteArray))).bind fun bt125 => (if x4_1.size + bt125.1.size ≤ 9223372036854775807 then ((spec_l1Rd_pick.f k1 t110 bt125.2 3).bind fun bt127 => ((spec_l1Rd_pick.f k1 t110 bt127.2 2).bind fun bt129 => ((spec_l1Many.f k1 (⟨#[32]⟩ : ByteArray) (wrap64 (bt127.1 + bt129.1))).bind fun t131 => (if (x4_1 ++ bt125.1).size + t131.size ≤ 9223372036854775807 then (spec_DrawSkyWords.l0 k1 ((x4_1 ++ bt125.1) ++ t131) (wrap64 (x5_1 - 1)) t110 bt129.2) else (none))))) else (none))) else (if t115 = 2 then ((spec_l1Rd_pick.f k1 t110 t116 2).bind fun bt132 => ((spec_l1Many.f k1 (⟨#[119]⟩ : ByteArray) (wrap64 (24 + bt132.1))).bind fun t134 => (if x4_1.size + t134.size ≤ 9223372036854775807 then ((spec_l1Rd_pick.f k1 t110 bt132.2 3).bind fun bt135 => ((spec_l1Rd_pick.f k1 t110 bt135.2 2).bind fun bt137 => ((spec_l1Many.f k1 (⟨#[32]⟩ : ByteArray) (wrap64 (bt135.1 + bt137.1))).bind fun t139 => (if (x4_1 ++ t134).size + t139.size ≤ 9223372036854775807 then (spec_DrawSkyWords.l0 k1 ((x4_1 ++ t134) ++ t139) (wrap64 (x5_1 - 1)) t110 bt137.2) else (none))))) else (none)))) else ((spec_l1Rd_of.f k1 t110 t116 (([(⟨#[112, 111, 105, 110, 116]⟩ : ByteArray), (⟨#[97]⟩ : ByteArray), (⟨#[49, 50]⟩ : ByteArray), (⟨#[33]⟩ : ByteArray), (⟨#[126]⟩ : ByteArray)] : List ByteArray))).bind fun bt143 => (if x4_1.size + bt143.1.size ≤ 9223372036854775807 then ((spec_l1Rd_pick.f k1 t110 bt143.2 3).bind fun bt145 => ((spec_l1Rd_pick.f k1 t110 bt145.2 2).bind fun bt147 => ((spec_l1Many.f k1 (⟨#[32]⟩ : ByteArray) (wrap64 (bt145.1 + bt147.1))).bind fun t149 => (if (x4_1 ++ bt143.1).size + t149.size ≤ 9223372036854775807 then (spec_DrawSkyWords.l0 k1 ((x4_1 ++ bt143.1) ++ t149) (wrap64 (x5_1 - 1)) t110 bt147.2) else (none))))) else (none)))))) = some r := H
   have A7 := Aside0.mk A70
   clear A70
   by_cases c8 : t115 = 0
   ·rw [if_pos c8] at H
    have c8b0 : (t115 == 0) = true := beq_iff_eq.mpr c8
    have c8b1 : (t115 != 0) = false := bne_eq_false_iff_eq.mpr c8
    clear c8
    by_cases c9 : x4_1.size + 1 ≤ 9223372036854775807
    rotate_left
    ·rw [if_neg c9] at H
     exact absurd H (by simp)
    rw [if_pos c9] at H
    have c9b0 := eq_true c9
    have c9b1 : decide (x4_1.size + 1 ≤ 9223372036854775807) = true := decide_eq_true c9
    try have c9b2 : (9223372036854775807 < x4_1.size + 1) = False := eq_false (Nat.not_lt.2 c9)
    replace H := Option.bind_eq_some_iff.mp H
    obtain ⟨⟨t117, t118⟩, A100, H⟩ := H
    replace H : ((spec_l1Rd_pick.f k1 t110 t118 2).bind fun bt119 => ((spec_l1Many.f k1 (⟨#[32]⟩ : ByteArray) (wrap64 (t117 + bt119.1))).bind fun t121 => (if (x4_1 ++ (⟨#[35]⟩ : ByteArray)).size + t121.size ≤ 9223372036854775807 then (spec_DrawSkyWords.l0 k1 ((x4_1 ++ (⟨#[35]⟩ : ByteArray)) ++ t121) (wrap64 (x5_1 - 1)) t110 bt119.2) else (none)))) = some r := H
    have A10 := Aside0.mk A100
    clear A100
    replace H := Option.bind_eq_some_iff.mp H
    obtain ⟨⟨t119, t120⟩, A110, H⟩ := H
    replace H : ((spec_l1Many.f k1 (⟨#[32]⟩ : ByteArray) (wrap64 (t117 + t119))).bind fun t121 => (if (x4_1 ++ (⟨#[35]⟩ : ByteArray)).size + t121.size ≤ 9223372036854775807 then (spec_DrawSkyWords.l0 k1 ((x4_1 ++ (⟨#[35]⟩ : ByteArray)) ++ t121) (wrap64 (x5_1 - 1)) t110 t120) else (none))) = some r := H
    have A11 := Aside0.mk A110
    clear A110
    replace H := zbd H; obtain ⟨t121, A12, H⟩ := H
    by_cases c13 : (x4_1 ++ (⟨#[35]⟩ : ByteArray)).size + t121.size ≤ 9223372036854775807
    rotate_left
    ·rw [if_neg c13] at H
     exact absurd H (by simp)
    rw [if_pos c13] at H
    have c13b0 := eq_true c13
    have c13b1 : decide ((x4_1 ++ (⟨#[35]⟩ : ByteArray)).size + t121.size ≤ 9223372036854775807) = true := decide_eq_true c13
    try have c13b2 : (9223372036854775807 < (x4_1 ++ (⟨#[35]⟩ : ByteArray)).size + t121.size) = False := eq_false (Nat.not_lt.2 c13)
    try have c13b3 : (9223372036854775807 < x4_1.size + 1 + t121.size) = False := eq_false (Nat.not_lt.2 (by have h_ := c13; rw [ByteArray.size_append] at h_; exact h_))
    have H' := Aside0.mk H
    clear H
    go_wp2_with (first | ((with_reducible refine gate_callee (f := 9) rfl ?_); refine goesL_ (some 15) rfl rfl Tryd.func9 (by kernel_rfl) rfl #[.pointer (some ⟨g112, 0, none⟩), .int .i64 24] rfl zl ?_; (with_reducible refine (spec_l1Rd_pick.calls k1 g112 t110 x113001_1 24 t115 t116 w _ ?side1 ?side2 A7.out).mono ?_); (case side1 => exact zI0 HI112); (case side2 => exact zB0 HI112 HB); rintro e w14 ⟨rfl, hi, hb, hk⟩; refine ⟨_, rfl, ?_⟩; replace HB := Aside0.mk (hb); replace HI112 := Aside0.mk (hi); (try clear hb); (try clear hb2); (try clear hk); (try clear hi)) | ((with_reducible refine gate_callee (f := 9) rfl ?_); refine goesL_ (some 42) rfl rfl Tryd.func9 (by kernel_rfl) rfl #[.pointer (some ⟨g112, 0, none⟩), .int .i64 3] rfl zl ?_; (with_reducible refine (spec_l1Rd_pick.calls k1 g112 t110 t116 3 t117 t118 w _ ?side1 ?side2 A10.out).mono ?_); (case side1 => exact zI0 HI112); (case side2 => exact zB0 HI112 HB); rintro e w15 ⟨rfl, hi, hb, hk⟩; refine ⟨_, rfl, ?_⟩; replace HB := Aside0.mk (hb); replace HI112 := Aside0.mk (hi); (try clear hb); (try clear hb2); (try clear hk); (try clear hi)) | ((with_reducible refine gate_callee (f := 9) rfl ?_); refine goesL_ (some 44) rfl rfl Tryd.func9 (by kernel_rfl) rfl #[.pointer (some ⟨g112, 0, none⟩), .int .i64 2] rfl zl ?_; (with_reducible refine (spec_l1Rd_pick.calls k1 g112 t110 t118 2 t119 t120 w _ ?side1 ?side2 A11.out).mono ?_); (case side1 => exact zI0 HI112); (case side2 => exact zB0 HI112 HB); rintro e w16 ⟨rfl, hi, hb, hk⟩; refine ⟨_, rfl, ?_⟩; replace HB := Aside0.mk (hb); replace HI112 := Aside0.mk (hi); (try clear hb); (try clear hb2); (try clear hk); (try clear hi)) | ((with_reducible refine gate_callee (f := 11) rfl ?_); refine goesL_ (some 46) rfl rfl Tryd.func11 (by kernel_rfl) rfl #[.string (⟨#[32]⟩ : ByteArray), .int .i64 (wrap64 (t117 + t119))] rfl zl ?_; (with_reducible refine (spec_l1Many.calls k1 (⟨#[32]⟩ : ByteArray) (wrap64 (t117 + t119)) t121 _ A12.out).mono ?_); rintro e w' ⟨rfl, ⟨nd, rfl⟩⟩; refine ⟨_, rfl, ?_⟩))
    go_roundg k1
    case measure => have := HK1.out; omega
    case rel => exact ⟨((x4_1 ++ (⟨#[35]⟩ : ByteArray)) ++ t121), (wrap64 (x5_1 - 1)), (t120), zi, zi, H', ⟨by have := HK1.out; omega⟩, ⟨zI0 HI112⟩, ⟨zB0 HI112 HB⟩⟩
   rw [if_neg c8] at H
   have c8b0 : (t115 == 0) = false := beq_eq_false_iff_ne.mpr c8
   have c8b1 : (t115 != 0) = true := bne_iff_ne.mpr c8
   by_cases c17 : t115 = 1
   ·rw [if_pos c17] at H
    have c17b0 : (t115 == 1) = true := beq_iff_eq.mpr c17
    have c17b1 : (t115 != 1) = false := bne_eq_false_iff_eq.mpr c17
    clear c17
    obtain ⟨y122, hy122⟩ : ∃ y_ : List ByteArray, y_ = (([(⟨#[127]⟩ : ByteArray), (⟨#[9]⟩ : ByteArray), (⟨#[0]⟩ : ByteArray), (⟨#[195, 169]⟩ : ByteArray)] : List ByteArray)) := ⟨_, rfl⟩
    replace H : ((spec_l1Rd_of.f k1 t110 t116 y122).bind fun bt125 => (if x4_1.size + bt125.1.size ≤ 9223372036854775807 then ((spec_l1Rd_pick.f k1 t110 bt125.2 3).bind fun bt127 => ((spec_l1Rd_pick.f k1 t110 bt127.2 2).bind fun bt129 => ((spec_l1Many.f k1 (⟨#[32]⟩ : ByteArray) (wrap64 (bt127.1 + bt129.1))).bind fun t131 => (if (x4_1 ++ bt125.1).size + t131.size ≤ 9223372036854775807 then (spec_DrawSkyWords.l0 k1 ((x4_1 ++ bt125.1) ++ t131) (wrap64 (x5_1 - 1)) t110 bt129.2) else (none))))) else (none))) = some r := by first | (rw [hy122]; with_reducible exact H) | (have H2_ := (Option.bind_some _ _).symm.trans H; rw [hy122]; with_reducible exact H2_) | (have H2_ := (Option.bind_some _ _).symm.trans H; with_reducible exact H2_) | with_reducible exact H | (rw [hy122]; exact H) | exact H
    have Ny122 := Aside0.mk hy122
    clear hy122
    replace H := Option.bind_eq_some_iff.mp H
    obtain ⟨⟨t125, t126⟩, A180, H⟩ := H
    replace H : (if x4_1.size + t125.size ≤ 9223372036854775807 then ((spec_l1Rd_pick.f k1 t110 t126 3).bind fun bt127 => ((spec_l1Rd_pick.f k1 t110 bt127.2 2).bind fun bt129 => ((spec_l1Many.f k1 (⟨#[32]⟩ : ByteArray) (wrap64 (bt127.1 + bt129.1))).bind fun t131 => (if (x4_1 ++ t125).size + t131.size ≤ 9223372036854775807 then (spec_DrawSkyWords.l0 k1 ((x4_1 ++ t125) ++ t131) (wrap64 (x5_1 - 1)) t110 bt129.2) else (none))))) else (none)) = some r := H
    have A18 := Aside0.mk A180
    clear A180
    by_cases c19 : x4_1.size + t125.size ≤ 9223372036854775807
    rotate_left
    ·rw [if_neg c19] at H
     exact absurd H (by simp)
    rw [if_pos c19] at H
    have c19b0 := eq_true c19
    have c19b1 : decide (x4_1.size + t125.size ≤ 9223372036854775807) = true := decide_eq_true c19
    try have c19b2 : (9223372036854775807 < x4_1.size + t125.size) = False := eq_false (Nat.not_lt.2 c19)
    replace H := Option.bind_eq_some_iff.mp H
    obtain ⟨⟨t127, t128⟩, A200, H⟩ := H
    replace H : ((spec_l1Rd_pick.f k1 t110 t128 2).bind fun bt129 => ((spec_l1Many.f k1 (⟨#[32]⟩ : ByteArray) (wrap64 (t127 + bt129.1))).bind fun t131 => (if (x4_1 ++ t125).size + t131.size ≤ 9223372036854775807 then (spec_DrawSkyWords.l0 k1 ((x4_1 ++ t125) ++ t131) (wrap64 (x5_1 - 1)) t110 bt129.2) else (none)))) = some r := H
    have A20 := Aside0.mk A200
    clear A200
    replace H := Option.bind_eq_some_iff.mp H
    obtain ⟨⟨t129, t130⟩, A210, H⟩ := H
    replace H : ((spec_l1Many.f k1 (⟨#[32]⟩ : ByteArray) (wrap64 (t127 + t129))).bind fun t131 => (if (x4_1 ++ t125).size + t131.size ≤ 9223372036854775807 then (spec_DrawSkyWords.l0 k1 ((x4_1 ++ t125) ++ t131) (wrap64 (x5_1 - 1)) t110 t130) else (none))) = some r := H
    have A21 := Aside0.mk A210
    clear A210
    replace H := zbd H; obtain ⟨t131, A22, H⟩ := H
    by_cases c23 : (x4_1 ++ t125).size + t131.size ≤ 9223372036854775807
    rotate_left
    ·rw [if_neg c23] at H
     exact absurd H (by simp)
    rw [if_pos c23] at H
    have c23b0 := eq_true c23
    have c23b1 : decide ((x4_1 ++ t125).size + t131.size ≤ 9223372036854775807) = true := decide_eq_true c23
    try have c23b2 : (9223372036854775807 < (x4_1 ++ t125).size + t131.size) = False := eq_false (Nat.not_lt.2 c23)
    try have c23b3 : (9223372036854775807 < x4_1.size + t125.size + t131.size) = False := eq_false (Nat.not_lt.2 (by have h_ := c23; rw [ByteArray.size_append] at h_; exact h_))
    have H' := Aside0.mk H
    clear H
    go_wp2_with (first | ((with_reducible refine gate_callee (f := 9) rfl ?_); refine goesL_ (some 15) rfl rfl Tryd.func9 (by kernel_rfl) rfl #[.pointer (some ⟨g112, 0, none⟩), .int .i64 24] rfl zl ?_; (with_reducible refine (spec_l1Rd_pick.calls k1 g112 t110 x113001_1 24 t115 t116 w _ ?side1 ?side2 A7.out).mono ?_); (case side1 => exact zI0 HI112); (case side2 => exact zB0 HI112 HB); rintro e w24 ⟨rfl, hi, hb, hk⟩; refine ⟨_, rfl, ?_⟩; replace HB := Aside0.mk (hb); replace HI112 := Aside0.mk (hi); (try clear hb); (try clear hb2); (try clear hk); (try clear hi)) | ((with_reducible refine gate_dst (N := 29) rfl ?_); refine Kd.R_lit Kd.string _ 9 ?hg (N := 29) ?hd (xs := ([(⟨#[127]⟩ : ByteArray), (⟨#[9]⟩ : ByteArray), (⟨#[0]⟩ : ByteArray), (⟨#[195, 169]⟩ : ByteArray)] : List ByteArray)) (inner := [.string (⟨#[127]⟩ : ByteArray), .string (⟨#[9]⟩ : ByteArray), .string (⟨#[0]⟩ : ByteArray), .string (⟨#[195, 169]⟩ : ByteArray)]) (ok := fun _ => True) (okp := fun _ => True) ?hr ?hp (fun _ hk => hk) trivial (Below.refl _ _) (Nat.le_refl _) (by simp) ?_; (case hd => rfl); (case hg => rfl); (case hr => first | (go_simp; done) | (go_simp; rfl)); (case hp => exact (Reps.one (show Kd.M Kd.string _ _ _ (⟨#[127]⟩ : ByteArray) [.string (⟨#[127]⟩ : ByteArray)] from rfl) (Reps.one (show Kd.M Kd.string _ _ _ (⟨#[9]⟩ : ByteArray) [.string (⟨#[9]⟩ : ByteArray)] from rfl) (Reps.one (show Kd.M Kd.string _ _ _ (⟨#[0]⟩ : ByteArray) [.string (⟨#[0]⟩ : ByteArray)] from rfl) (Reps.one (show Kd.M Kd.string _ _ _ (⟨#[195, 169]⟩ : ByteArray) [.string (⟨#[195, 169]⟩ : ByteArray)] from rfl) (Reps.none _ _)))))); intro v123 w25 ho26 hb hg_ hnew_; clear hg_ hnew_; (first | rw [← Ny122.out] at ho26 | (simp only [Int.reduceToNat] at ho26; rw [← Ny122.out] at ho26)); have HO124 := Aside0.mk (Kd.R_lower ho26 (below_size (zB0 HI112 HB))); replace HB := zE (zB0 HI112 HB) hb; replace HI112 := zib (zI0 HI112) hb; clear hb ho26; obtain ⟨Ao27, co27, eo27⟩ := Kd.R_slice HO124.out; subst eo27) | ((with_reducible refine gate_callee (f := 10) rfl ?_); refine goesL_ (some 30) rfl rfl Tryd.func10 (by kernel_rfl) rfl #[.pointer (some ⟨g112, 0, none⟩), .slice Ao27 y122.length co27] rfl zl ?_; (with_reducible refine (spec_l1Rd_of.calls k1 g112 t110 t116 _ _ y122 t125 t126 w _ ?side1 ?side2 ?side3 ?side4 ?side5 A18.out).mono ?_); (case side1 => exact zI0 HI112); (case side2 => exact zB0 HI112 HB); (case side3 => repeat (first | exact (Kd.R_reads' HO124.out).2.2 | (with_reducible refine Kd.C_alloc ?_ _) | (with_reducible refine Kd.C_drewN ?_ _) | (with_reducible refine Kd.C_drew ?_))); (case side4 => exact (Kd.R_reads' HO124.out).2.1); (case side5 => exact far_slice (IsS40.own_ne HI112.out HO124.out (by decide))); rintro e w28 ⟨rfl, hi, hb, hk⟩; refine ⟨_, rfl, ?_⟩; replace HO124 := zok (show IsS40 w _ g112 t110 t116 from zI0 HI112) (zr HO124) hk; replace HB := Aside0.mk (hb); replace HI112 := Aside0.mk (hi); (try clear hb); (try clear hb2); (try clear hk); (try clear hi)) | ((with_reducible refine gate_callee (f := 9) rfl ?_); refine goesL_ (some 42) rfl rfl Tryd.func9 (by kernel_rfl) rfl #[.pointer (some ⟨g112, 0, none⟩), .int .i64 3] rfl zl ?_; (with_reducible refine (spec_l1Rd_pick.calls k1 g112 t110 t126 3 t127 t128 w _ ?side1 ?side2 A20.out).mono ?_); (case side1 => exact zI0 HI112); (case side2 => exact zB0 HI112 HB); rintro e w29 ⟨rfl, hi, hb, hk⟩; refine ⟨_, rfl, ?_⟩; replace HO124 := zok (show IsS40 w _ g112 t110 t126 from zI0 HI112) (zr HO124) hk; replace HB := Aside0.mk (hb); replace HI112 := Aside0.mk (hi); (try clear hb); (try clear hb2); (try clear hk); (try clear hi)) | ((with_reducible refine gate_callee (f := 9) rfl ?_); refine goesL_ (some 44) rfl rfl Tryd.func9 (by kernel_rfl) rfl #[.pointer (some ⟨g112, 0, none⟩), .int .i64 2] rfl zl ?_; (with_reducible refine (spec_l1Rd_pick.calls k1 g112 t110 t128 2 t129 t130 w _ ?side1 ?side2 A21.out).mono ?_); (case side1 => exact zI0 HI112); (case side2 => exact zB0 HI112 HB); rintro e w30 ⟨rfl, hi, hb, hk⟩; refine ⟨_, rfl, ?_⟩; replace HO124 := zok (show IsS40 w _ g112 t110 t128 from zI0 HI112) (zr HO124) hk; replace HB := Aside0.mk (hb); replace HI112 := Aside0.mk (hi); (try clear hb); (try clear hb2); (try clear hk); (try clear hi)) | ((with_reducible refine gate_callee (f := 11) rfl ?_); refine goesL_ (some 46) rfl rfl Tryd.func11 (by kernel_rfl) rfl #[.string (⟨#[32]⟩ : ByteArray), .int .i64 (wrap64 (t127 + t129))] rfl zl ?_; (with_reducible refine (spec_l1Many.calls k1 (⟨#[32]⟩ : ByteArray) (wrap64 (t127 + t129)) t131 _ A22.out).mono ?_); rintro e w' ⟨rfl, ⟨nd, rfl⟩⟩; refine ⟨_, rfl, ?_⟩))
    go_roundg k1
    case measure => have := HK1.out; omega
    case rel => exact ⟨((x4_1 ++ t125) ++ t131), (wrap64 (x5_1 - 1)), (t130), zi, zi, H', ⟨by have := HK1.out; omega⟩, ⟨zI0 HI112⟩, ⟨zB0 HI112 HB⟩⟩
   rw [if_neg c17] at H
   have c17b0 : (t115 == 1) = false := beq_eq_false_iff_ne.mpr c17
   have c17b1 : (t115 != 1) = true := bne_iff_ne.mpr c17
   by_cases c31 : t115 = 2
   ·rw [if_pos c31] at H
    have c31b0 : (t115 == 2) = true := beq_iff_eq.mpr c31
    have c31b1 : (t115 != 2) = false := bne_eq_false_iff_eq.mpr c31
    clear c31
    replace H := Option.bind_eq_some_iff.mp H
    obtain ⟨⟨t132, t133⟩, A320, H⟩ := H
    replace H : ((spec_l1Many.f k1 (⟨#[119]⟩ : ByteArray) (wrap64 (24 + t132))).bind fun t134 => (if x4_1.size + t134.size ≤ 9223372036854775807 then ((spec_l1Rd_pick.f k1 t110 t133 3).bind fun bt135 => ((spec_l1Rd_pick.f k1 t110 bt135.2 2).bind fun bt137 => ((spec_l1Many.f k1 (⟨#[32]⟩ : ByteArray) (wrap64 (bt135.1 + bt137.1))).bind fun t139 => (if (x4_1 ++ t134).size + t139.size ≤ 9223372036854775807 then (spec_DrawSkyWords.l0 k1 ((x4_1 ++ t134) ++ t139) (wrap64 (x5_1 - 1)) t110 bt137.2) else (none))))) else (none))) = some r := H
    have A32 := Aside0.mk A320
    clear A320
    replace H := zbd H; obtain ⟨t134, A33, H⟩ := H
    by_cases c34 : x4_1.size + t134.size ≤ 9223372036854775807
    rotate_left
    ·rw [if_neg c34] at H
     exact absurd H (by simp)
    rw [if_pos c34] at H
    have c34b0 := eq_true c34
    have c34b1 : decide (x4_1.size + t134.size ≤ 9223372036854775807) = true := decide_eq_true c34
    try have c34b2 : (9223372036854775807 < x4_1.size + t134.size) = False := eq_false (Nat.not_lt.2 c34)
    replace H := Option.bind_eq_some_iff.mp H
    obtain ⟨⟨t135, t136⟩, A350, H⟩ := H
    replace H : ((spec_l1Rd_pick.f k1 t110 t136 2).bind fun bt137 => ((spec_l1Many.f k1 (⟨#[32]⟩ : ByteArray) (wrap64 (t135 + bt137.1))).bind fun t139 => (if (x4_1 ++ t134).size + t139.size ≤ 9223372036854775807 then (spec_DrawSkyWords.l0 k1 ((x4_1 ++ t134) ++ t139) (wrap64 (x5_1 - 1)) t110 bt137.2) else (none)))) = some r := H
    have A35 := Aside0.mk A350
    clear A350
    replace H := Option.bind_eq_some_iff.mp H
    obtain ⟨⟨t137, t138⟩, A360, H⟩ := H
    replace H : ((spec_l1Many.f k1 (⟨#[32]⟩ : ByteArray) (wrap64 (t135 + t137))).bind fun t139 => (if (x4_1 ++ t134).size + t139.size ≤ 9223372036854775807 then (spec_DrawSkyWords.l0 k1 ((x4_1 ++ t134) ++ t139) (wrap64 (x5_1 - 1)) t110 t138) else (none))) = some r := H
    have A36 := Aside0.mk A360
    clear A360
    replace H := zbd H; obtain ⟨t139, A37, H⟩ := H
    by_cases c38 : (x4_1 ++ t134).size + t139.size ≤ 9223372036854775807
    rotate_left
    ·rw [if_neg c38] at H
     exact absurd H (by simp)
    rw [if_pos c38] at H
    have c38b0 := eq_true c38
    have c38b1 : decide ((x4_1 ++ t134).size + t139.size ≤ 9223372036854775807) = true := decide_eq_true c38
    try have c38b2 : (9223372036854775807 < (x4_1 ++ t134).size + t139.size) = False := eq_false (Nat.not_lt.2 c38)
    try have c38b3 : (9223372036854775807 < x4_1.size + t134.size + t139.size) = False := eq_false (Nat.not_lt.2 (by have h_ := c38; rw [ByteArray.size_append] at h_; exact h_))
    have H' := Aside0.mk H
    clear H
    go_wp2_with (first | ((with_reducible refine gate_callee (f := 9) rfl ?_); refine goesL_ (some 15) rfl rfl Tryd.func9 (by kernel_rfl) rfl #[.pointer (some ⟨g112, 0, none⟩), .int .i64 24] rfl zl ?_; (with_reducible refine (spec_l1Rd_pick.calls k1 g112 t110 x113001_1 24 t115 t116 w _ ?side1 ?side2 A7.out).mono ?_); (case side1 => exact zI0 HI112); (case side2 => exact zB0 HI112 HB); rintro e w39 ⟨rfl, hi, hb, hk⟩; refine ⟨_, rfl, ?_⟩; replace HB := Aside0.mk (hb); replace HI112 := Aside0.mk (hi); (try clear hb); (try clear hb2); (try clear hk); (try clear hi)) | ((with_reducible refine gate_callee (f := 9) rfl ?_); refine goesL_ (some 36) rfl rfl Tryd.func9 (by kernel_rfl) rfl #[.pointer (some ⟨g112, 0, none⟩), .int .i64 2] rfl zl ?_; (with_reducible refine (spec_l1Rd_pick.calls k1 g112 t110 t116 2 t132 t133 w _ ?side1 ?side2 A32.out).mono ?_); (case side1 => exact zI0 HI112); (case side2 => exact zB0 HI112 HB); rintro e w40 ⟨rfl, hi, hb, hk⟩; refine ⟨_, rfl, ?_⟩; replace HB := Aside0.mk (hb); replace HI112 := Aside0.mk (hi); (try clear hb); (try clear hb2); (try clear hk); (try clear hi)) | ((with_reducible refine gate_callee (f := 11) rfl ?_); refine goesL_ (some 38) rfl rfl Tryd.func11 (by kernel_rfl) rfl #[.string (⟨#[119]⟩ : ByteArray), .int .i64 (wrap64 (24 + t132))] rfl zl ?_; (with_reducible refine (spec_l1Many.calls k1 (⟨#[119]⟩ : ByteArray) (wrap64 (24 + t132)) t134 _ A33.out).mono ?_); rintro e w' ⟨rfl, ⟨nd, rfl⟩⟩; refine ⟨_, rfl, ?_⟩) | ((with_reducible refine gate_callee (f := 9) rfl ?_); refine goesL_ (some 42) rfl rfl Tryd.func9 (by kernel_rfl) rfl #[.pointer (some ⟨g112, 0, none⟩), .int .i64 3] rfl zl ?_; (with_reducible refine (spec_l1Rd_pick.calls k1 g112 t110 t133 3 t135 t136 w _ ?side1 ?side2 A35.out).mono ?_); (case side1 => exact zI0 HI112); (case side2 => exact zB0 HI112 HB); rintro e w41 ⟨rfl, hi, hb, hk⟩; refine ⟨_, rfl, ?_⟩; replace HB := Aside0.mk (hb); replace HI112 := Aside0.mk (hi); (try clear hb); (try clear hb2); (try clear hk); (try clear hi)) | ((with_reducible refine gate_callee (f := 9) rfl ?_); refine goesL_ (some 44) rfl rfl Tryd.func9 (by kernel_rfl) rfl #[.pointer (some ⟨g112, 0, none⟩), .int .i64 2] rfl zl ?_; (with_reducible refine (spec_l1Rd_pick.calls k1 g112 t110 t136 2 t137 t138 w _ ?side1 ?side2 A36.out).mono ?_); (case side1 => exact zI0 HI112); (case side2 => exact zB0 HI112 HB); rintro e w42 ⟨rfl, hi, hb, hk⟩; refine ⟨_, rfl, ?_⟩; replace HB := Aside0.mk (hb); replace HI112 := Aside0.mk (hi); (try clear hb); (try clear hb2); (try clear hk); (try clear hi)) | ((with_reducible refine gate_callee (f := 11) rfl ?_); refine goesL_ (some 46) rfl rfl Tryd.func11 (by kernel_rfl) rfl #[.string (⟨#[32]⟩ : ByteArray), .int .i64 (wrap64 (t135 + t137))] rfl zl ?_; (with_reducible refine (spec_l1Many.calls k1 (⟨#[32]⟩ : ByteArray) (wrap64 (t135 + t137)) t139 _ A37.out).mono ?_); rintro e w' ⟨rfl, ⟨nd, rfl⟩⟩; refine ⟨_, rfl, ?_⟩))
    go_roundg k1
    case measure => have := HK1.out; omega
    case rel => exact ⟨((x4_1 ++ t134) ++ t139), (wrap64 (x5_1 - 1)), (t138), zi, zi, H', ⟨by have := HK1.out; omega⟩, ⟨zI0 HI112⟩, ⟨zB0 HI112 HB⟩⟩
   rw [if_neg c31] at H
   have c31b0 : (t115 == 2) = false := beq_eq_false_iff_ne.mpr c31
   have c31b1 : (t115 != 2) = true := bne_iff_ne.mpr c31
   obtain ⟨y140, hy140⟩ : ∃ y_ : List ByteArray, y_ = (([(⟨#[112, 111, 105, 110, 116]⟩ : ByteArray), (⟨#[97]⟩ : ByteArray), (⟨#[49, 50]⟩ : ByteArray), (⟨#[33]⟩ : ByteArray), (⟨#[126]⟩ : ByteArray)] : List ByteArray)) := ⟨_, rfl⟩
   replace H : ((spec_l1Rd_of.f k1 t110 t116 y140).bind fun bt143 => (if x4_1.size + bt143.1.size ≤ 9223372036854775807 then ((spec_l1Rd_pick.f k1 t110 bt143.2 3).bind fun bt145 => ((spec_l1Rd_pick.f k1 t110 bt145.2 2).bind fun bt147 => ((spec_l1Many.f k1 (⟨#[32]⟩ : ByteArray) (wrap64 (bt145.1 + bt147.1))).bind fun t149 => (if (x4_1 ++ bt143.1).size + t149.size ≤ 9223372036854775807 then (spec_DrawSkyWords.l0 k1 ((x4_1 ++ bt143.1) ++ t149) (wrap64 (x5_1 - 1)) t110 bt147.2) else (none))))) else (none))) = some r := by first | (rw [hy140]; with_reducible exact H) | (have H2_ := (Option.bind_some _ _).symm.trans H; rw [hy140]; with_reducible exact H2_) | (have H2_ := (Option.bind_some _ _).symm.trans H; with_reducible exact H2_) | with_reducible exact H | (rw [hy140]; exact H) | exact H
   have Ny140 := Aside0.mk hy140
   clear hy140
   replace H := Option.bind_eq_some_iff.mp H
   obtain ⟨⟨t143, t144⟩, A430, H⟩ := H
   replace H : (if x4_1.size + t143.size ≤ 9223372036854775807 then ((spec_l1Rd_pick.f k1 t110 t144 3).bind fun bt145 => ((spec_l1Rd_pick.f k1 t110 bt145.2 2).bind fun bt147 => ((spec_l1Many.f k1 (⟨#[32]⟩ : ByteArray) (wrap64 (bt145.1 + bt147.1))).bind fun t149 => (if (x4_1 ++ t143).size + t149.size ≤ 9223372036854775807 then (spec_DrawSkyWords.l0 k1 ((x4_1 ++ t143) ++ t149) (wrap64 (x5_1 - 1)) t110 bt147.2) else (none))))) else (none)) = some r := H
   have A43 := Aside0.mk A430
   clear A430
   by_cases c44 : x4_1.size + t143.size ≤ 9223372036854775807
   rotate_left
   ·rw [if_neg c44] at H
    exact absurd H (by simp)
   rw [if_pos c44] at H
   have c44b0 := eq_true c44
   have c44b1 : decide (x4_1.size + t143.size ≤ 9223372036854775807) = true := decide_eq_true c44
   try have c44b2 : (9223372036854775807 < x4_1.size + t143.size) = False := eq_false (Nat.not_lt.2 c44)
   replace H := Option.bind_eq_some_iff.mp H
   obtain ⟨⟨t145, t146⟩, A450, H⟩ := H
   replace H : ((spec_l1Rd_pick.f k1 t110 t146 2).bind fun bt147 => ((spec_l1Many.f k1 (⟨#[32]⟩ : ByteArray) (wrap64 (t145 + bt147.1))).bind fun t149 => (if (x4_1 ++ t143).size + t149.size ≤ 9223372036854775807 then (spec_DrawSkyWords.l0 k1 ((x4_1 ++ t143) ++ t149) (wrap64 (x5_1 - 1)) t110 bt147.2) else (none)))) = some r := H
   have A45 := Aside0.mk A450
   clear A450
   replace H := Option.bind_eq_some_iff.mp H
   obtain ⟨⟨t147, t148⟩, A460, H⟩ := H
   replace H : ((spec_l1Many.f k1 (⟨#[32]⟩ : ByteArray) (wrap64 (t145 + t147))).bind fun t149 => (if (x4_1 ++ t143).size + t149.size ≤ 9223372036854775807 then (spec_DrawSkyWords.l0 k1 ((x4_1 ++ t143) ++ t149) (wrap64 (x5_1 - 1)) t110 t148) else (none))) = some r := H
   have A46 := Aside0.mk A460
   clear A460
   replace H := zbd H; obtain ⟨t149, A47, H⟩ := H
   by_cases c48 : (x4_1 ++ t143).size + t149.size ≤ 9223372036854775807
   rotate_left
   ·rw [if_neg c48] at H
    exact absurd H (by simp)
   rw [if_pos c48] at H
   have c48b0 := eq_true c48
   have c48b1 : decide ((x4_1 ++ t143).size + t149.size ≤ 9223372036854775807) = true := decide_eq_true c48
   try have c48b2 : (9223372036854775807 < (x4_1 ++ t143).size + t149.size) = False := eq_false (Nat.not_lt.2 c48)
   try have c48b3 : (9223372036854775807 < x4_1.size + t143.size + t149.size) = False := eq_false (Nat.not_lt.2 (by have h_ := c48; rw [ByteArray.size_append] at h_; exact h_))
   have H' := Aside0.mk H
   clear H
   go_wp2_with (first | ((with_reducible refine gate_callee (f := 9) rfl ?_); refine goesL_ (some 15) rfl rfl Tryd.func9 (by kernel_rfl) rfl #[.pointer (some ⟨g112, 0, none⟩), .int .i64 24] rfl zl ?_; (with_reducible refine (spec_l1Rd_pick.calls k1 g112 t110 x113001_1 24 t115 t116 w _ ?side1 ?side2 A7.out).mono ?_); (case side1 => exact zI0 HI112); (case side2 => exact zB0 HI112 HB); rintro e w49 ⟨rfl, hi, hb, hk⟩; refine ⟨_, rfl, ?_⟩; replace HB := Aside0.mk (hb); replace HI112 := Aside0.mk (hi); (try clear hb); (try clear hb2); (try clear hk); (try clear hi)) | ((with_reducible refine gate_dst (N := 18) rfl ?_); refine Kd.R_lit Kd.string _ 9 ?hg (N := 18) ?hd (xs := ([(⟨#[112, 111, 105, 110, 116]⟩ : ByteArray), (⟨#[97]⟩ : ByteArray), (⟨#[49, 50]⟩ : ByteArray), (⟨#[33]⟩ : ByteArray), (⟨#[126]⟩ : ByteArray)] : List ByteArray)) (inner := [.string (⟨#[112, 111, 105, 110, 116]⟩ : ByteArray), .string (⟨#[97]⟩ : ByteArray), .string (⟨#[49, 50]⟩ : ByteArray), .string (⟨#[33]⟩ : ByteArray), .string (⟨#[126]⟩ : ByteArray)]) (ok := fun _ => True) (okp := fun _ => True) ?hr ?hp (fun _ hk => hk) trivial (Below.refl _ _) (Nat.le_refl _) (by simp) ?_; (case hd => rfl); (case hg => rfl); (case hr => first | (go_simp; done) | (go_simp; rfl)); (case hp => exact (Reps.one (show Kd.M Kd.string _ _ _ (⟨#[112, 111, 105, 110, 116]⟩ : ByteArray) [.string (⟨#[112, 111, 105, 110, 116]⟩ : ByteArray)] from rfl) (Reps.one (show Kd.M Kd.string _ _ _ (⟨#[97]⟩ : ByteArray) [.string (⟨#[97]⟩ : ByteArray)] from rfl) (Reps.one (show Kd.M Kd.string _ _ _ (⟨#[49, 50]⟩ : ByteArray) [.string (⟨#[49, 50]⟩ : ByteArray)] from rfl) (Reps.one (show Kd.M Kd.string _ _ _ (⟨#[33]⟩ : ByteArray) [.string (⟨#[33]⟩ : ByteArray)] from rfl) (Reps.one (show Kd.M Kd.string _ _ _ (⟨#[126]⟩ : ByteArray) [.string (⟨#[126]⟩ : ByteArray)] from rfl) (Reps.none _ _))))))); intro v141 w50 ho51 hb hg_ hnew_; clear hg_ hnew_; (first | rw [← Ny140.out] at ho51 | (simp only [Int.reduceToNat] at ho51; rw [← Ny140.out] at ho51)); have HO142 := Aside0.mk (Kd.R_lower ho51 (below_size (zB0 HI112 HB))); replace HB := zE (zB0 HI112 HB) hb; replace HI112 := zib (zI0 HI112) hb; clear hb ho51; obtain ⟨Ao52, co52, eo52⟩ := Kd.R_slice HO142.out; subst eo52) | ((with_reducible refine gate_callee (f := 10) rfl ?_); refine goesL_ (some 19) rfl rfl Tryd.func10 (by kernel_rfl) rfl #[.pointer (some ⟨g112, 0, none⟩), .slice Ao52 y140.length co52] rfl zl ?_; (with_reducible refine (spec_l1Rd_of.calls k1 g112 t110 t116 _ _ y140 t143 t144 w _ ?side1 ?side2 ?side3 ?side4 ?side5 A43.out).mono ?_); (case side1 => exact zI0 HI112); (case side2 => exact zB0 HI112 HB); (case side3 => repeat (first | exact (Kd.R_reads' HO142.out).2.2 | (with_reducible refine Kd.C_alloc ?_ _) | (with_reducible refine Kd.C_drewN ?_ _) | (with_reducible refine Kd.C_drew ?_))); (case side4 => exact (Kd.R_reads' HO142.out).2.1); (case side5 => exact far_slice (IsS40.own_ne HI112.out HO142.out (by decide))); rintro e w53 ⟨rfl, hi, hb, hk⟩; refine ⟨_, rfl, ?_⟩; replace HO142 := zok (show IsS40 w _ g112 t110 t116 from zI0 HI112) (zr HO142) hk; replace HB := Aside0.mk (hb); replace HI112 := Aside0.mk (hi); (try clear hb); (try clear hb2); (try clear hk); (try clear hi)) | ((with_reducible refine gate_callee (f := 9) rfl ?_); refine goesL_ (some 42) rfl rfl Tryd.func9 (by kernel_rfl) rfl #[.pointer (some ⟨g112, 0, none⟩), .int .i64 3] rfl zl ?_; (with_reducible refine (spec_l1Rd_pick.calls k1 g112 t110 t144 3 t145 t146 w _ ?side1 ?side2 A45.out).mono ?_); (case side1 => exact zI0 HI112); (case side2 => exact zB0 HI112 HB); rintro e w54 ⟨rfl, hi, hb, hk⟩; refine ⟨_, rfl, ?_⟩; replace HO142 := zok (show IsS40 w _ g112 t110 t144 from zI0 HI112) (zr HO142) hk; replace HB := Aside0.mk (hb); replace HI112 := Aside0.mk (hi); (try clear hb); (try clear hb2); (try clear hk); (try clear hi)) | ((with_reducible refine gate_callee (f := 9) rfl ?_); refine goesL_ (some 44) rfl rfl Tryd.func9 (by kernel_rfl) rfl #[.pointer (some ⟨g112, 0, none⟩), .int .i64 2] rfl zl ?_; (with_reducible refine (spec_l1Rd_pick.calls k1 g112 t110 t146 2 t147 t148 w _ ?side1 ?side2 A46.out).mono ?_); (case side1 => exact zI0 HI112); (case side2 => exact zB0 HI112 HB); rintro e w55 ⟨rfl, hi, hb, hk⟩; refine ⟨_, rfl, ?_⟩; replace HO142 := zok (show IsS40 w _ g112 t110 t146 from zI0 HI112) (zr HO142) hk; replace HB := Aside0.mk (hb); replace HI112 := Aside0.mk (hi); (try clear hb); (try clear hb2); (try clear hk); (try clear hi)) | ((with_reducible refine gate_callee (f := 11) rfl ?_); refine goesL_ (some 46) rfl rfl Tryd.func11 (by kernel_rfl) rfl #[.string (⟨#[32]⟩ : ByteArray), .int .i64 (wrap64 (t145 + t147))] rfl zl ?_; (with_reducible refine (spec_l1Many.calls k1 (⟨#[32]⟩ : ByteArray) (wrap64 (t145 + t147)) t149 _ A47.out).mono ?_); rintro e w' ⟨rfl, ⟨nd, rfl⟩⟩; refine ⟨_, rfl, ?_⟩))
   go_roundg k1
   case measure => have := HK1.out; omega
   case rel => exact ⟨((x4_1 ++ t143) ++ t149), (wrap64 (x5_1 - 1)), (t148), zi, zi, H', ⟨by have := HK1.out; omega⟩, ⟨zI0 HI112⟩, ⟨zB0 HI112 HB⟩⟩
-- NOT PRINTED: function 28 (utf8_RuneCountInString)
-- NOT PRINTED: function 33 (utf8_decodeRuneInStringSlow)
-- NOT PRINTED: function 29 (utf8_DecodeRuneInString)
-- NOT PRINTED: function 21 (strings_explode)
-- NOT PRINTED: function 31 (bytealg_IndexByteString)
-- NOT PRINTED: function 24 (stringslite_IndexByte)
-- NOT PRINTED: function 25 (bytealg_IndexString)
end Go.Proofs.YtnmjmhhkbcnccaaDoor.QFnSkyWords
