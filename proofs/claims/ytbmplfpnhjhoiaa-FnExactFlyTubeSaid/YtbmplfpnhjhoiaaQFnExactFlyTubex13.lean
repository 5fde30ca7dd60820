/- The walk of what the law FnExactFlyTube reaches: laid by a program of this session (ownprint.py). -/
import Derived.Test.YtbmplfpnhjhoiaaQFnExactFlyTubex0
namespace Go.Proofs.Ytbmplfpnhjhoiaa.QFnExactFlyTube
open Go.RowKit Go.Proofs.YtbmplfpnhjhoiaaW.PrintWords Go.Proofs.YtbmplfpnhjhoiaaW.PrintLast Go.Proofs.YtbmplfpnhjhoiaaW.PrintMore Go.Proofs.Ytbmplfpnhjhoiaa.Z
attribute [local go_sem] max2_int min2_int max_two min_two max_three min_three max_four min_four zdn   -- for this text's walks alone
set_option linter.unusedVariables false
set_option linter.unusedSimpArgs false
def laws_heldFlyBoxS.l0 : Nat → List (S112) → Int → Int → Option (Int)
 | 0, _, _, _ => none
 | k + 1, x0, x1, x5 => if x5 < (x0.length : Int) then (if 0 ≤ x5 then (if ((rd_T112 x0 x5).f0) = x1 then (if ((rd_T112 x0 x5).f1) = (wrap64 (x1 + 1)) then (if ((rd_T112 x0 x5).f2) = (wrap64 ((wrap64 (x1 + 1)) + 1)) then (if ((rd_T112 x0 x5).f3) = (wrap64 ((wrap64 ((wrap64 (x1 + 1)) + 1)) + 1)) then (if ((rd_T112 x0 x5).f4) = (wrap64 ((wrap64 ((wrap64 ((wrap64 (x1 + 1)) + 1)) + 1)) + 1)) then (if ((rd_T112 x0 x5).f5) = (wrap64 ((wrap64 ((wrap64 ((wrap64 ((wrap64 (x1 + 1)) + 1)) + 1)) + 1)) + 1)) then (laws_heldFlyBoxS.l0 k x0 (wrap64 ((wrap64 ((wrap64 ((wrap64 ((wrap64 ((wrap64 (x1 + 1)) + 1)) + 1)) + 1)) + 1)) + 1)) (wrap64 (x5 + 1))) else (some (-1))) else (some (-1))) else (some (-1))) else (some (-1))) else (some (-1))) else (some (-1))) else (none)) else (some x1)
def laws_heldFlyBoxS.f (k : Nat) (l0 : List (S112)) (a1 : Int) : Option (Int) := laws_heldFlyBoxS.l0 k l0 a1 0
set_option maxHeartbeats 8000000 in
set_option maxRecDepth 100000 in
theorem laws_heldFlyBoxS.calls (k : Nat) (A0 : Option Addr) (c0 : Nat) (l0 : List (S112)) (a1 : Int) (r : Int) (w : World) (hr0 : Kd.C k112 w A0 l0.length l0) (hc0 : l0.length ≤ c0) (h : laws_heldFlyBoxS.f k l0 a1 = some r) :
 Calls Try.prog 70 #[.slice A0 l0.length c0, .int .i64 a1] w fun e w' => e = .returned (.int .i64 r) ∧ Drawn0 w w' := by
 have HR0 := zA hr0
 have HC0 := zA hc0
 clear hr0 hc0
 have H : (laws_heldFlyBoxS.l0 k l0 a1 0) = some r := h
 clear h
 have H' := zA H
 clear H
 go_enter Try.func70, Try.ntmps70
 go_wp2
 go_loopg [1, 5] k (fun kq v1 v5 w' => ∃ (x1_1 : Int) (x5_1 : Int), v1 = .int .i64 x1_1 ∧ v5 = .int .i64 x5_1 ∧ Aside0 (laws_heldFlyBoxS.l0 kq l0 x1_1 x5_1 = some r) ∧ Aside0 (kq ≤ k) ∧ Drawn0 w w')
 case atStart => exact ⟨(a1), (0), zi, zi, H', ⟨Nat.le_refl _⟩, by repeat (first | exact Drawn0.refl _ | apply Drawn0.step)⟩
 case round =>
  clear H'
  try clear p2
  obtain ⟨x1_1, x5_1, rfl, rfl, HA, HK1, ⟨m1, rfl⟩⟩ := hrel
  cases gk with
  | zero => exact absurd HA.out (by simp [laws_heldFlyBoxS.l0])
  | succ k1 =>
   have H := HA.out
   clear HA
   simp only [laws_heldFlyBoxS.l0] at H
   by_cases c3 : x5_1 < (l0.length : Int)
   rotate_left
   ·rw [if_neg c3] at H
    have c3b0 : decide (x5_1 < (l0.length : Int)) = false := decide_eq_false c3
    clear c3
    obtain rfl := Option.some.inj H
    go_wp2
    go_ret
    exact ⟨by first | rfl | (simp; done) | (simp [*]; done), by repeat (first | exact Drawn0.refl _ | apply Drawn0.step)⟩
   rw [if_pos c3] at H
   have c3b0 : decide (x5_1 < (l0.length : Int)) = true := decide_eq_true c3
   clear c3
   by_cases c4 : 0 ≤ x5_1
   rotate_left
   ·rw [if_neg c4] at H
    exact absurd H (by simp)
   rw [if_pos c4] at H
   have c4b0 : decide (0 ≤ x5_1) = true := decide_eq_true c4
   clear c4
   by_cases c5 : ((rd_T112 l0 x5_1).f0) = x1_1
   rotate_left
   ·rw [if_neg c5] at H
    have c5b0 : (((rd_T112 l0 x5_1).f0) == x1_1) = false := beq_eq_false_iff_ne.mpr c5
    have c5b1 : (((rd_T112 l0 x5_1).f0) != x1_1) = true := bne_iff_ne.mpr c5
    obtain rfl := Option.some.inj H
    have p316 : 0 ≤ (x5_1 : Int) := za
    have q316 : x5_1 < (l0.length : Int) := za
    obtain ⟨ad316, e316, hx316_0, hx316_1, hx316_2, hx316_3, hx316_4, hx316_5⟩ := at_T112 HR0.out x5_1 p316 q316
    cases e316
    replace p316 := eq_true p316
    replace q316 := eq_true q316
    go_wp2
    go_ret
    exact ⟨by first | rfl | (simp; done) | (simp [*]; done), by repeat (first | exact Drawn0.refl _ | apply Drawn0.step)⟩
   rw [if_pos c5] at H
   have c5b0 : (((rd_T112 l0 x5_1).f0) == x1_1) = true := beq_iff_eq.mpr c5
   have c5b1 : (((rd_T112 l0 x5_1).f0) != x1_1) = false := bne_eq_false_iff_eq.mpr c5
   clear c5
   by_cases c6 : ((rd_T112 l0 x5_1).f1) = (wrap64 (x1_1 + 1))
   rotate_left
   ·rw [if_neg c6] at H
    have c6b0 : (((rd_T112 l0 x5_1).f1) == (wrap64 (x1_1 + 1))) = false := beq_eq_false_iff_ne.mpr c6
    have c6b1 : (((rd_T112 l0 x5_1).f1) != (wrap64 (x1_1 + 1))) = true := bne_iff_ne.mpr c6
    obtain rfl := Option.some.inj H
    have p316 : 0 ≤ (x5_1 : Int) := za
    have q316 : x5_1 < (l0.length : Int) := za
    obtain ⟨ad316, e316, hx316_0, hx316_1, hx316_2, hx316_3, hx316_4, hx316_5⟩ := at_T112 HR0.out x5_1 p316 q316
    cases e316
    replace p316 := eq_true p316
    replace q316 := eq_true q316
    have p317 : 0 ≤ (x5_1 : Int) := za
    have q317 : x5_1 < (l0.length : Int) := za
    obtain ⟨ad317, e317, hx317_0, hx317_1, hx317_2, hx317_3, hx317_4, hx317_5⟩ := at_T112 HR0.out x5_1 p317 q317
    obtain rfl : ad316 = ad317 := (by injection e317)
    replace p317 := eq_true p317
    replace q317 := eq_true q317
    go_wp2
    go_ret
    exact ⟨by first | rfl | (simp; done) | (simp [*]; done), by repeat (first | exact Drawn0.refl _ | apply Drawn0.step)⟩
   rw [if_pos c6] at H
   have c6b0 : (((rd_T112 l0 x5_1).f1) == (wrap64 (x1_1 + 1))) = true := beq_iff_eq.mpr c6
   have c6b1 : (((rd_T112 l0 x5_1).f1) != (wrap64 (x1_1 + 1))) = false := bne_eq_false_iff_eq.mpr c6
   clear c6
   by_cases c7 : ((rd_T112 l0 x5_1).f2) = (wrap64 ((wrap64 (x1_1 + 1)) + 1))
   rotate_left
   ·rw [if_neg c7] at H
    have c7b0 : (((rd_T112 l0 x5_1).f2) == (wrap64 ((wrap64 (x1_1 + 1)) + 1))) = false := beq_eq_false_iff_ne.mpr c7
    have c7b1 : (((rd_T112 l0 x5_1).f2) != (wrap64 ((wrap64 (x1_1 + 1)) + 1))) = true := bne_iff_ne.mpr c7
    obtain rfl := Option.some.inj H
    have p316 : 0 ≤ (x5_1 : Int) := za
    have q316 : x5_1 < (l0.length : Int) := za
    obtain ⟨ad316, e316, hx316_0, hx316_1, hx316_2, hx316_3, hx316_4, hx316_5⟩ := at_T112 HR0.out x5_1 p316 q316
    cases e316
    replace p316 := eq_true p316
    replace q316 := eq_true q316
    have p317 : 0 ≤ (x5_1 : Int) := za
    have q317 : x5_1 < (l0.length : Int) := za
    obtain ⟨ad317, e317, hx317_0, hx317_1, hx317_2, hx317_3, hx317_4, hx317_5⟩ := at_T112 HR0.out x5_1 p317 q317
    obtain rfl : ad316 = ad317 := (by injection e317)
    replace p317 := eq_true p317
    replace q317 := eq_true q317
    have p318 : 0 ≤ (x5_1 : Int) := za
    have q318 : x5_1 < (l0.length : Int) := za
    obtain ⟨ad318, e318, hx318_0, hx318_1, hx318_2, hx318_3, hx318_4, hx318_5⟩ := at_T112 HR0.out x5_1 p318 q318
    obtain rfl : ad316 = ad318 := (by injection e318)
    replace p318 := eq_true p318
    replace q318 := eq_true q318
    go_wp2
    go_ret
    exact ⟨by first | rfl | (simp; done) | (simp [*]; done), by repeat (first | exact Drawn0.refl _ | apply Drawn0.step)⟩
   rw [if_pos c7] at H
   have c7b0 : (((rd_T112 l0 x5_1).f2) == (wrap64 ((wrap64 (x1_1 + 1)) + 1))) = true := beq_iff_eq.mpr c7
   have c7b1 : (((rd_T112 l0 x5_1).f2) != (wrap64 ((wrap64 (x1_1 + 1)) + 1))) = false := bne_eq_false_iff_eq.mpr c7
   clear c7
   by_cases c8 : ((rd_T112 l0 x5_1).f3) = (wrap64 ((wrap64 ((wrap64 (x1_1 + 1)) + 1)) + 1))
   rotate_left
   ·rw [if_neg c8] at H
    have c8b0 : (((rd_T112 l0 x5_1).f3) == (wrap64 ((wrap64 ((wrap64 (x1_1 + 1)) + 1)) + 1))) = false := beq_eq_false_iff_ne.mpr c8
    have c8b1 : (((rd_T112 l0 x5_1).f3) != (wrap64 ((wrap64 ((wrap64 (x1_1 + 1)) + 1)) + 1))) = true := bne_iff_ne.mpr c8
    obtain rfl := Option.some.inj H
    have p316 : 0 ≤ (x5_1 : Int) := za
    have q316 : x5_1 < (l0.length : Int) := za
    obtain ⟨ad316, e316, hx316_0, hx316_1, hx316_2, hx316_3, hx316_4, hx316_5⟩ := at_T112 HR0.out x5_1 p316 q316
    cases e316
    replace p316 := eq_true p316
    replace q316 := eq_true q316
    have p317 : 0 ≤ (x5_1 : Int) := za
    have q317 : x5_1 < (l0.length : Int) := za
    obtain ⟨ad317, e317, hx317_0, hx317_1, hx317_2, hx317_3, hx317_4, hx317_5⟩ := at_T112 HR0.out x5_1 p317 q317
    obtain rfl : ad316 = ad317 := (by injection e317)
    replace p317 := eq_true p317
    replace q317 := eq_true q317
    have p318 : 0 ≤ (x5_1 : Int) := za
    have q318 : x5_1 < (l0.length : Int) := za
    obtain ⟨ad318, e318, hx318_0, hx318_1, hx318_2, hx318_3, hx318_4, hx318_5⟩ := at_T112 HR0.out x5_1 p318 q318
    obtain rfl : ad316 = ad318 := (by injection e318)
    replace p318 := eq_true p318
    replace q318 := eq_true q318
    have p319 : 0 ≤ (x5_1 : Int) := za
    have q319 : x5_1 < (l0.length : Int) := za
    obtain ⟨ad319, e319, hx319_0, hx319_1, hx319_2, hx319_3, hx319_4, hx319_5⟩ := at_T112 HR0.out x5_1 p319 q319
    obtain rfl : ad316 = ad319 := (by injection e319)
    replace p319 := eq_true p319
    replace q319 := eq_true q319
    go_wp2
    go_ret
    exact ⟨by first | rfl | (simp; done) | (simp [*]; done), by repeat (first | exact Drawn0.refl _ | apply Drawn0.step)⟩
   rw [if_pos c8] at H
   have c8b0 : (((rd_T112 l0 x5_1).f3) == (wrap64 ((wrap64 ((wrap64 (x1_1 + 1)) + 1)) + 1))) = true := beq_iff_eq.mpr c8
   have c8b1 : (((rd_T112 l0 x5_1).f3) != (wrap64 ((wrap64 ((wrap64 (x1_1 + 1)) + 1)) + 1))) = false := bne_eq_false_iff_eq.mpr c8
   clear c8
   by_cases c9 : ((rd_T112 l0 x5_1).f4) = (wrap64 ((wrap64 ((wrap64 ((wrap64 (x1_1 + 1)) + 1)) + 1)) + 1))
   rotate_left
   ·rw [if_neg c9] at H
    have c9b0 : (((rd_T112 l0 x5_1).f4) == (wrap64 ((wrap64 ((wrap64 ((wrap64 (x1_1 + 1)) + 1)) + 1)) + 1))) = false := beq_eq_false_iff_ne.mpr c9
    have c9b1 : (((rd_T112 l0 x5_1).f4) != (wrap64 ((wrap64 ((wrap64 ((wrap64 (x1_1 + 1)) + 1)) + 1)) + 1))) = true := bne_iff_ne.mpr c9
    obtain rfl := Option.some.inj H
    have p316 : 0 ≤ (x5_1 : Int) := za
    have q316 : x5_1 < (l0.length : Int) := za
    obtain ⟨ad316, e316, hx316_0, hx316_1, hx316_2, hx316_3, hx316_4, hx316_5⟩ := at_T112 HR0.out x5_1 p316 q316
    cases e316
    replace p316 := eq_true p316
    replace q316 := eq_true q316
    have p317 : 0 ≤ (x5_1 : Int) := za
    have q317 : x5_1 < (l0.length : Int) := za
    obtain ⟨ad317, e317, hx317_0, hx317_1, hx317_2, hx317_3, hx317_4, hx317_5⟩ := at_T112 HR0.out x5_1 p317 q317
    obtain rfl : ad316 = ad317 := (by injection e317)
    replace p317 := eq_true p317
    replace q317 := eq_true q317
    have p318 : 0 ≤ (x5_1 : Int) := za
    have q318 : x5_1 < (l0.length : Int) := za
    obtain ⟨ad318, e318, hx318_0, hx318_1, hx318_2, hx318_3, hx318_4, hx318_5⟩ := at_T112 HR0.out x5_1 p318 q318
    obtain rfl : ad316 = ad318 := (by injection e318)
    replace p318 := eq_true p318
    replace q318 := eq_true q318
    have p319 : 0 ≤ (x5_1 : Int) := za
    have q319 : x5_1 < (l0.length : Int) := za
    obtain ⟨ad319, e319, hx319_0, hx319_1, hx319_2, hx319_3, hx319_4, hx319_5⟩ := at_T112 HR0.out x5_1 p319 q319
    obtain rfl : ad316 = ad319 := (by injection e319)
    replace p319 := eq_true p319
    replace q319 := eq_true q319
    have p320 : 0 ≤ (x5_1 : Int) := za
    have q320 : x5_1 < (l0.length : Int) := za
    obtain ⟨ad320, e320, hx320_0, hx320_1, hx320_2, hx320_3, hx320_4, hx320_5⟩ := at_T112 HR0.out x5_1 p320 q320
    obtain rfl : ad316 = ad320 := (by injection e320)
    replace p320 := eq_true p320
    replace q320 := eq_true q320
    go_wp2
    go_ret
    exact ⟨by first | rfl | (simp; done) | (simp [*]; done), by repeat (first | exact Drawn0.refl _ | apply Drawn0.step)⟩
   rw [if_pos c9] at H
   have c9b0 : (((rd_T112 l0 x5_1).f4) == (wrap64 ((wrap64 ((wrap64 ((wrap64 (x1_1 + 1)) + 1)) + 1)) + 1))) = true := beq_iff_eq.mpr c9
   have c9b1 : (((rd_T112 l0 x5_1).f4) != (wrap64 ((wrap64 ((wrap64 ((wrap64 (x1_1 + 1)) + 1)) + 1)) + 1))) = false := bne_eq_false_iff_eq.mpr c9
   clear c9
   by_cases c10 : ((rd_T112 l0 x5_1).f5) = (wrap64 ((wrap64 ((wrap64 ((wrap64 ((wrap64 (x1_1 + 1)) + 1)) + 1)) + 1)) + 1))
   rotate_left
   ·rw [if_neg c10] at H
    have c10b0 : (((rd_T112 l0 x5_1).f5) == (wrap64 ((wrap64 ((wrap64 ((wrap64 ((wrap64 (x1_1 + 1)) + 1)) + 1)) + 1)) + 1))) = false := beq_eq_false_iff_ne.mpr c10
    have c10b1 : (((rd_T112 l0 x5_1).f5) != (wrap64 ((wrap64 ((wrap64 ((wrap64 ((wrap64 (x1_1 + 1)) + 1)) + 1)) + 1)) + 1))) = true := bne_iff_ne.mpr c10
    obtain rfl := Option.some.inj H
    have p316 : 0 ≤ (x5_1 : Int) := za
    have q316 : x5_1 < (l0.length : Int) := za
    obtain ⟨ad316, e316, hx316_0, hx316_1, hx316_2, hx316_3, hx316_4, hx316_5⟩ := at_T112 HR0.out x5_1 p316 q316
    cases e316
    replace p316 := eq_true p316
    replace q316 := eq_true q316
    have p317 : 0 ≤ (x5_1 : Int) := za
    have q317 : x5_1 < (l0.length : Int) := za
    obtain ⟨ad317, e317, hx317_0, hx317_1, hx317_2, hx317_3, hx317_4, hx317_5⟩ := at_T112 HR0.out x5_1 p317 q317
    obtain rfl : ad316 = ad317 := (by injection e317)
    replace p317 := eq_true p317
    replace q317 := eq_true q317
    have p318 : 0 ≤ (x5_1 : Int) := za
    have q318 : x5_1 < (l0.length : Int) := za
    obtain ⟨ad318, e318, hx318_0, hx318_1, hx318_2, hx318_3, hx318_4, hx318_5⟩ := at_T112 HR0.out x5_1 p318 q318
    obtain rfl : ad316 = ad318 := (by injection e318)
    replace p318 := eq_true p318
    replace q318 := eq_true q318
    have p319 : 0 ≤ (x5_1 : Int) := za
    have q319 : x5_1 < (l0.length : Int) := za
    obtain ⟨ad319, e319, hx319_0, hx319_1, hx319_2, hx319_3, hx319_4, hx319_5⟩ := at_T112 HR0.out x5_1 p319 q319
    obtain rfl : ad316 = ad319 := (by injection e319)
    replace p319 := eq_true p319
    replace q319 := eq_true q319
    have p320 : 0 ≤ (x5_1 : Int) := za
    have q320 : x5_1 < (l0.length : Int) := za
    obtain ⟨ad320, e320, hx320_0, hx320_1, hx320_2, hx320_3, hx320_4, hx320_5⟩ := at_T112 HR0.out x5_1 p320 q320
    obtain rfl : ad316 = ad320 := (by injection e320)
    replace p320 := eq_true p320
    replace q320 := eq_true q320
    have p321 : 0 ≤ (x5_1 : Int) := za
    have q321 : x5_1 < (l0.length : Int) := za
    obtain ⟨ad321, e321, hx321_0, hx321_1, hx321_2, hx321_3, hx321_4, hx321_5⟩ := at_T112 HR0.out x5_1 p321 q321
    obtain rfl : ad316 = ad321 := (by injection e321)
    replace p321 := eq_true p321
    replace q321 := eq_true q321
    go_wp2
    go_ret
    exact ⟨by first | rfl | (simp; done) | (simp [*]; done), by repeat (first | exact Drawn0.refl _ | apply Drawn0.step)⟩
   rw [if_pos c10] at H
   have c10b0 : (((rd_T112 l0 x5_1).f5) == (wrap64 ((wrap64 ((wrap64 ((wrap64 ((wrap64 (x1_1 + 1)) + 1)) + 1)) + 1)) + 1))) = true := beq_iff_eq.mpr c10
   have c10b1 : (((rd_T112 l0 x5_1).f5) != (wrap64 ((wrap64 ((wrap64 ((wrap64 ((wrap64 (x1_1 + 1)) + 1)) + 1)) + 1)) + 1))) = false := bne_eq_false_iff_eq.mpr c10
   clear c10
   have H' := zA H
   clear H
   have p316 : 0 ≤ (x5_1 : Int) := za
   have q316 : x5_1 < (l0.length : Int) := za
   obtain ⟨ad316, e316, hx316_0, hx316_1, hx316_2, hx316_3, hx316_4, hx316_5⟩ := at_T112 HR0.out x5_1 p316 q316
   cases e316
   replace p316 := eq_true p316
   replace q316 := eq_true q316
   have p317 : 0 ≤ (x5_1 : Int) := za
   have q317 : x5_1 < (l0.length : Int) := za
   obtain ⟨ad317, e317, hx317_0, hx317_1, hx317_2, hx317_3, hx317_4, hx317_5⟩ := at_T112 HR0.out x5_1 p317 q317
   obtain rfl : ad316 = ad317 := (by injection e317)
   replace p317 := eq_true p317
   replace q317 := eq_true q317
   have p318 : 0 ≤ (x5_1 : Int) := za
   have q318 : x5_1 < (l0.length : Int) := za
   obtain ⟨ad318, e318, hx318_0, hx318_1, hx318_2, hx318_3, hx318_4, hx318_5⟩ := at_T112 HR0.out x5_1 p318 q318
   obtain rfl : ad316 = ad318 := (by injection e318)
   replace p318 := eq_true p318
   replace q318 := eq_true q318
   have p319 : 0 ≤ (x5_1 : Int) := za
   have q319 : x5_1 < (l0.length : Int) := za
   obtain ⟨ad319, e319, hx319_0, hx319_1, hx319_2, hx319_3, hx319_4, hx319_5⟩ := at_T112 HR0.out x5_1 p319 q319
   obtain rfl : ad316 = ad319 := (by injection e319)
   replace p319 := eq_true p319
   replace q319 := eq_true q319
   have p320 : 0 ≤ (x5_1 : Int) := za
   have q320 : x5_1 < (l0.length : Int) := za
   obtain ⟨ad320, e320, hx320_0, hx320_1, hx320_2, hx320_3, hx320_4, hx320_5⟩ := at_T112 HR0.out x5_1 p320 q320
   obtain rfl : ad316 = ad320 := (by injection e320)
   replace p320 := eq_true p320
   replace q320 := eq_true q320
   have p321 : 0 ≤ (x5_1 : Int) := za
   have q321 : x5_1 < (l0.length : Int) := za
   obtain ⟨ad321, e321, hx321_0, hx321_1, hx321_2, hx321_3, hx321_4, hx321_5⟩ := at_T112 HR0.out x5_1 p321 q321
   obtain rfl : ad316 = ad321 := (by injection e321)
   replace p321 := eq_true p321
   replace q321 := eq_true q321
   go_wp2
   go_roundg k1
   case measure => have := HK1.out; omega
   case rel => exact ⟨(wrap64 ((wrap64 ((wrap64 ((wrap64 ((wrap64 ((wrap64 (x1_1 + 1)) + 1)) + 1)) + 1)) + 1)) + 1)), (wrap64 (x5_1 + 1)), zi, zi, H', ⟨by have := HK1.out; omega⟩, by repeat (first | exact Drawn0.refl _ | apply Drawn0.step)⟩
end Go.Proofs.Ytbmplfpnhjhoiaa.QFnExactFlyTube
