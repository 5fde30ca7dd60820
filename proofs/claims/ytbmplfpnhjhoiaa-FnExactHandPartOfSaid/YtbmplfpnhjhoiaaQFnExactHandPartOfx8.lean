/- The walk of what the law FnExactHandPartOf reaches: laid by a program of this session (ownprint.py). -/
import Derived.Test.YtbmplfpnhjhoiaaQFnExactHandPartOfx0
namespace Go.Proofs.Ytbmplfpnhjhoiaa.QFnExactHandPartOf
open Go.RowKit Go.Proofs.YtbmplfpnhjhoiaaW.PrintWords Go.Proofs.YtbmplfpnhjhoiaaW.PrintLast Go.Proofs.YtbmplfpnhjhoiaaW.PrintMore Go.Proofs.Ytbmplfpnhjhoiaa.Z
attribute [local go_sem] max2_int min2_int max_two min_two max_three min_three max_four min_four zdn   -- for this text's walks alone
set_option linter.unusedVariables false
set_option linter.unusedSimpArgs false
def laws_heldHandBoxS.l0 : Nat → List (S41) → Int → Int → Option (Int)
 | 0, _, _, _ => none
 | k + 1, x0, x1, x5 => if x5 < (x0.length : Int) then (if 0 ≤ x5 then (if ((rd_T41 x0 x5).f0) = x1 then (if ((rd_T41 x0 x5).f1) = (wrap64 (x1 + 1)) then (if ((rd_T41 x0 x5).f2) = (wrap64 ((wrap64 (x1 + 1)) + 1)) then (if ((rd_T41 x0 x5).f3) = (wrap64 ((wrap64 ((wrap64 (x1 + 1)) + 1)) + 1)) then (if ((rd_T41 x0 x5).f4) = (wrap64 ((wrap64 ((wrap64 ((wrap64 (x1 + 1)) + 1)) + 1)) + 1)) then (if ((rd_T41 x0 x5).f5) = (wrap64 ((wrap64 ((wrap64 ((wrap64 ((wrap64 (x1 + 1)) + 1)) + 1)) + 1)) + 1)) then (laws_heldHandBoxS.l0 k x0 (wrap64 ((wrap64 ((wrap64 ((wrap64 ((wrap64 ((wrap64 (x1 + 1)) + 1)) + 1)) + 1)) + 1)) + 1)) (wrap64 (x5 + 1))) else (some (-1))) else (some (-1))) else (some (-1))) else (some (-1))) else (some (-1))) else (some (-1))) else (none)) else (some x1)
def laws_heldHandBoxS.f (k : Nat) (l0 : List (S41)) (a1 : Int) : Option (Int) := laws_heldHandBoxS.l0 k l0 a1 0
set_option maxHeartbeats 8000000 in
set_option maxRecDepth 100000 in
theorem laws_heldHandBoxS.calls (k : Nat) (A0 : Option Addr) (c0 : Nat) (l0 : List (S41)) (a1 : Int) (r : Int) (w : World) (hr0 : Kd.C k41 w A0 l0.length l0) (hc0 : l0.length ≤ c0) (h : laws_heldHandBoxS.f k l0 a1 = some r) :
 Calls Try.prog 34 #[.slice A0 l0.length c0, .int .i64 a1] w fun e w' => e = .returned (.int .i64 r) ∧ Drawn0 w w' := by
 have HR0 := Aside0.mk hr0
 have HC0 := Aside0.mk hc0
 clear hr0 hc0
 have H : (laws_heldHandBoxS.l0 k l0 a1 0) = some r := h
 clear h
 have H' := Aside0.mk H
 clear H
 go_enter Try.func34, Try.ntmps34
 go_wp2
 go_loopg [1, 5] k (fun kq v1 v5 w' => ∃ (x1_1 : Int) (x5_1 : Int), v1 = .int .i64 x1_1 ∧ v5 = .int .i64 x5_1 ∧ Aside0 (laws_heldHandBoxS.l0 kq l0 x1_1 x5_1 = some r) ∧ Aside0 (kq ≤ k) ∧ Drawn0 w w')
 case atStart => exact ⟨(a1), (0), zi, zi, H', ⟨Nat.le_refl _⟩, by repeat (first | exact Drawn0.refl _ | apply Drawn0.step)⟩
 case round =>
  clear H'
  try clear p2
  obtain ⟨x1_1, x5_1, rfl, rfl, HA, HK1, ⟨m1, rfl⟩⟩ := hrel
  cases gk with
  | zero => exact absurd HA.out (by simp [laws_heldHandBoxS.l0])
  | succ k1 =>
   have H := HA.out
   clear HA
   simp only [laws_heldHandBoxS.l0] at H
   by_cases c3 : x5_1 < (l0.length : Int)
   rotate_left
   ·rw [if_neg c3] at H
    have c3b0 : decide (x5_1 < (l0.length : Int)) = false := decide_eq_false c3
    clear c3
    obtain rfl := Option.some.inj H
    go_wp2
    go_ret
    exact ⟨by first | rfl | (simp; done) | (simp [*]; done), by repeat (first | exact Drawn0.refl _ | apply Drawn0.step)⟩
   rw [if_pos c3] at H
   have c3b0 : decide (x5_1 < (l0.length : Int)) = true := decide_eq_true c3
   clear c3
   by_cases c4 : 0 ≤ x5_1
   rotate_left
   ·rw [if_neg c4] at H
    exact absurd H (by simp)
   rw [if_pos c4] at H
   have c4b0 : decide (0 ≤ x5_1) = true := decide_eq_true c4
   clear c4
   by_cases c5 : ((rd_T41 l0 x5_1).f0) = x1_1
   rotate_left
   ·rw [if_neg c5] at H
    have c5b0 : (((rd_T41 l0 x5_1).f0) == x1_1) = false := beq_eq_false_iff_ne.mpr c5
    have c5b1 : (((rd_T41 l0 x5_1).f0) != x1_1) = true := bne_iff_ne.mpr c5
    obtain rfl := Option.some.inj H
    have p195 : 0 ≤ (x5_1 : Int) := za
    have q195 : x5_1 < (l0.length : Int) := za
    obtain ⟨ad195, e195, hx195_0, hx195_1, hx195_2, hx195_3, hx195_4, hx195_5⟩ := at_T41 HR0.out x5_1 p195 q195
    cases e195
    replace p195 := eq_true p195
    replace q195 := eq_true q195
    go_wp2
    go_ret
    exact ⟨by first | rfl | (simp; done) | (simp [*]; done), by repeat (first | exact Drawn0.refl _ | apply Drawn0.step)⟩
   rw [if_pos c5] at H
   have c5b0 : (((rd_T41 l0 x5_1).f0) == x1_1) = true := beq_iff_eq.mpr c5
   have c5b1 : (((rd_T41 l0 x5_1).f0) != x1_1) = false := bne_eq_false_iff_eq.mpr c5
   clear c5
   by_cases c6 : ((rd_T41 l0 x5_1).f1) = (wrap64 (x1_1 + 1))
   rotate_left
   ·rw [if_neg c6] at H
    have c6b0 : (((rd_T41 l0 x5_1).f1) == (wrap64 (x1_1 + 1))) = false := beq_eq_false_iff_ne.mpr c6
    have c6b1 : (((rd_T41 l0 x5_1).f1) != (wrap64 (x1_1 + 1))) = true := bne_iff_ne.mpr c6
    obtain rfl := Option.some.inj H
    have p195 : 0 ≤ (x5_1 : Int) := za
    have q195 : x5_1 < (l0.length : Int) := za
    obtain ⟨ad195, e195, hx195_0, hx195_1, hx195_2, hx195_3, hx195_4, hx195_5⟩ := at_T41 HR0.out x5_1 p195 q195
    cases e195
    replace p195 := eq_true p195
    replace q195 := eq_true q195
    have p196 : 0 ≤ (x5_1 : Int) := za
    have q196 : x5_1 < (l0.length : Int) := za
    obtain ⟨ad196, e196, hx196_0, hx196_1, hx196_2, hx196_3, hx196_4, hx196_5⟩ := at_T41 HR0.out x5_1 p196 q196
    obtain rfl : ad195 = ad196 := (by injection e196)
    replace p196 := eq_true p196
    replace q196 := eq_true q196
    go_wp2
    go_ret
    exact ⟨by first | rfl | (simp; done) | (simp [*]; done), by repeat (first | exact Drawn0.refl _ | apply Drawn0.step)⟩
   rw [if_pos c6] at H
   have c6b0 : (((rd_T41 l0 x5_1).f1) == (wrap64 (x1_1 + 1))) = true := beq_iff_eq.mpr c6
   have c6b1 : (((rd_T41 l0 x5_1).f1) != (wrap64 (x1_1 + 1))) = false := bne_eq_false_iff_eq.mpr c6
   clear c6
   by_cases c7 : ((rd_T41 l0 x5_1).f2) = (wrap64 ((wrap64 (x1_1 + 1)) + 1))
   rotate_left
   ·rw [if_neg c7] at H
    have c7b0 : (((rd_T41 l0 x5_1).f2) == (wrap64 ((wrap64 (x1_1 + 1)) + 1))) = false := beq_eq_false_iff_ne.mpr c7
    have c7b1 : (((rd_T41 l0 x5_1).f2) != (wrap64 ((wrap64 (x1_1 + 1)) + 1))) = true := bne_iff_ne.mpr c7
    obtain rfl := Option.some.inj H
    have p195 : 0 ≤ (x5_1 : Int) := za
    have q195 : x5_1 < (l0.length : Int) := za
    obtain ⟨ad195, e195, hx195_0, hx195_1, hx195_2, hx195_3, hx195_4, hx195_5⟩ := at_T41 HR0.out x5_1 p195 q195
    cases e195
    replace p195 := eq_true p195
    replace q195 := eq_true q195
    have p196 : 0 ≤ (x5_1 : Int) := za
    have q196 : x5_1 < (l0.length : Int) := za
    obtain ⟨ad196, e196, hx196_0, hx196_1, hx196_2, hx196_3, hx196_4, hx196_5⟩ := at_T41 HR0.out x5_1 p196 q196
    obtain rfl : ad195 = ad196 := (by injection e196)
    replace p196 := eq_true p196
    replace q196 := eq_true q196
    have p197 : 0 ≤ (x5_1 : Int) := za
    have q197 : x5_1 < (l0.length : Int) := za
    obtain ⟨ad197, e197, hx197_0, hx197_1, hx197_2, hx197_3, hx197_4, hx197_5⟩ := at_T41 HR0.out x5_1 p197 q197
    obtain rfl : ad195 = ad197 := (by injection e197)
    replace p197 := eq_true p197
    replace q197 := eq_true q197
    go_wp2
    go_ret
    exact ⟨by first | rfl | (simp; done) | (simp [*]; done), by repeat (first | exact Drawn0.refl _ | apply Drawn0.step)⟩
   rw [if_pos c7] at H
   have c7b0 : (((rd_T41 l0 x5_1).f2) == (wrap64 ((wrap64 (x1_1 + 1)) + 1))) = true := beq_iff_eq.mpr c7
   have c7b1 : (((rd_T41 l0 x5_1).f2) != (wrap64 ((wrap64 (x1_1 + 1)) + 1))) = false := bne_eq_false_iff_eq.mpr c7
   clear c7
   by_cases c8 : ((rd_T41 l0 x5_1).f3) = (wrap64 ((wrap64 ((wrap64 (x1_1 + 1)) + 1)) + 1))
   rotate_left
   ·rw [if_neg c8] at H
    have c8b0 : (((rd_T41 l0 x5_1).f3) == (wrap64 ((wrap64 ((wrap64 (x1_1 + 1)) + 1)) + 1))) = false := beq_eq_false_iff_ne.mpr c8
    have c8b1 : (((rd_T41 l0 x5_1).f3) != (wrap64 ((wrap64 ((wrap64 (x1_1 + 1)) + 1)) + 1))) = true := bne_iff_ne.mpr c8
    obtain rfl := Option.some.inj H
    have p195 : 0 ≤ (x5_1 : Int) := za
    have q195 : x5_1 < (l0.length : Int) := za
    obtain ⟨ad195, e195, hx195_0, hx195_1, hx195_2, hx195_3, hx195_4, hx195_5⟩ := at_T41 HR0.out x5_1 p195 q195
    cases e195
    replace p195 := eq_true p195
    replace q195 := eq_true q195
    have p196 : 0 ≤ (x5_1 : Int) := za
    have q196 : x5_1 < (l0.length : Int) := za
    obtain ⟨ad196, e196, hx196_0, hx196_1, hx196_2, hx196_3, hx196_4, hx196_5⟩ := at_T41 HR0.out x5_1 p196 q196
    obtain rfl : ad195 = ad196 := (by injection e196)
    replace p196 := eq_true p196
    replace q196 := eq_true q196
    have p197 : 0 ≤ (x5_1 : Int) := za
    have q197 : x5_1 < (l0.length : Int) := za
    obtain ⟨ad197, e197, hx197_0, hx197_1, hx197_2, hx197_3, hx197_4, hx197_5⟩ := at_T41 HR0.out x5_1 p197 q197
    obtain rfl : ad195 = ad197 := (by injection e197)
    replace p197 := eq_true p197
    replace q197 := eq_true q197
    have p198 : 0 ≤ (x5_1 : Int) := za
    have q198 : x5_1 < (l0.length : Int) := za
    obtain ⟨ad198, e198, hx198_0, hx198_1, hx198_2, hx198_3, hx198_4, hx198_5⟩ := at_T41 HR0.out x5_1 p198 q198
    obtain rfl : ad195 = ad198 := (by injection e198)
    replace p198 := eq_true p198
    replace q198 := eq_true q198
    go_wp2
    go_ret
    exact ⟨by first | rfl | (simp; done) | (simp [*]; done), by repeat (first | exact Drawn0.refl _ | apply Drawn0.step)⟩
   rw [if_pos c8] at H
   have c8b0 : (((rd_T41 l0 x5_1).f3) == (wrap64 ((wrap64 ((wrap64 (x1_1 + 1)) + 1)) + 1))) = true := beq_iff_eq.mpr c8
   have c8b1 : (((rd_T41 l0 x5_1).f3) != (wrap64 ((wrap64 ((wrap64 (x1_1 + 1)) + 1)) + 1))) = false := bne_eq_false_iff_eq.mpr c8
   clear c8
   by_cases c9 : ((rd_T41 l0 x5_1).f4) = (wrap64 ((wrap64 ((wrap64 ((wrap64 (x1_1 + 1)) + 1)) + 1)) + 1))
   rotate_left
   ·rw [if_neg c9] at H
    have c9b0 : (((rd_T41 l0 x5_1).f4) == (wrap64 ((wrap64 ((wrap64 ((wrap64 (x1_1 + 1)) + 1)) + 1)) + 1))) = false := beq_eq_false_iff_ne.mpr c9
    have c9b1 : (((rd_T41 l0 x5_1).f4) != (wrap64 ((wrap64 ((wrap64 ((wrap64 (x1_1 + 1)) + 1)) + 1)) + 1))) = true := bne_iff_ne.mpr c9
    obtain rfl := Option.some.inj H
    have p195 : 0 ≤ (x5_1 : Int) := za
    have q195 : x5_1 < (l0.length : Int) := za
    obtain ⟨ad195, e195, hx195_0, hx195_1, hx195_2, hx195_3, hx195_4, hx195_5⟩ := at_T41 HR0.out x5_1 p195 q195
    cases e195
    replace p195 := eq_true p195
    replace q195 := eq_true q195
    have p196 : 0 ≤ (x5_1 : Int) := za
    have q196 : x5_1 < (l0.length : Int) := za
    obtain ⟨ad196, e196, hx196_0, hx196_1, hx196_2, hx196_3, hx196_4, hx196_5⟩ := at_T41 HR0.out x5_1 p196 q196
    obtain rfl : ad195 = ad196 := (by injection e196)
    replace p196 := eq_true p196
    replace q196 := eq_true q196
    have p197 : 0 ≤ (x5_1 : Int) := za
    have q197 : x5_1 < (l0.length : Int) := za
    obtain ⟨ad197, e197, hx197_0, hx197_1, hx197_2, hx197_3, hx197_4, hx197_5⟩ := at_T41 HR0.out x5_1 p197 q197
    obtain rfl : ad195 = ad197 := (by injection e197)
    replace p197 := eq_true p197
    replace q197 := eq_true q197
    have p198 : 0 ≤ (x5_1 : Int) := za
    have q198 : x5_1 < (l0.length : Int) := za
    obtain ⟨ad198, e198, hx198_0, hx198_1, hx198_2, hx198_3, hx198_4, hx198_5⟩ := at_T41 HR0.out x5_1 p198 q198
    obtain rfl : ad195 = ad198 := (by injection e198)
    replace p198 := eq_true p198
    replace q198 := eq_true q198
    have p199 : 0 ≤ (x5_1 : Int) := za
    have q199 : x5_1 < (l0.length : Int) := za
    obtain ⟨ad199, e199, hx199_0, hx199_1, hx199_2, hx199_3, hx199_4, hx199_5⟩ := at_T41 HR0.out x5_1 p199 q199
    obtain rfl : ad195 = ad199 := (by injection e199)
    replace p199 := eq_true p199
    replace q199 := eq_true q199
    go_wp2
    go_ret
    exact ⟨by first | rfl | (simp; done) | (simp [*]; done), by repeat (first | exact Drawn0.refl _ | apply Drawn0.step)⟩
   rw [if_pos c9] at H
   have c9b0 : (((rd_T41 l0 x5_1).f4) == (wrap64 ((wrap64 ((wrap64 ((wrap64 (x1_1 + 1)) + 1)) + 1)) + 1))) = true := beq_iff_eq.mpr c9
   have c9b1 : (((rd_T41 l0 x5_1).f4) != (wrap64 ((wrap64 ((wrap64 ((wrap64 (x1_1 + 1)) + 1)) + 1)) + 1))) = false := bne_eq_false_iff_eq.mpr c9
   clear c9
   by_cases c10 : ((rd_T41 l0 x5_1).f5) = (wrap64 ((wrap64 ((wrap64 ((wrap64 ((wrap64 (x1_1 + 1)) + 1)) + 1)) + 1)) + 1))
   rotate_left
   ·rw [if_neg c10] at H
    have c10b0 : (((rd_T41 l0 x5_1).f5) == (wrap64 ((wrap64 ((wrap64 ((wrap64 ((wrap64 (x1_1 + 1)) + 1)) + 1)) + 1)) + 1))) = false := beq_eq_false_iff_ne.mpr c10
    have c10b1 : (((rd_T41 l0 x5_1).f5) != (wrap64 ((wrap64 ((wrap64 ((wrap64 ((wrap64 (x1_1 + 1)) + 1)) + 1)) + 1)) + 1))) = true := bne_iff_ne.mpr c10
    obtain rfl := Option.some.inj H
    have p195 : 0 ≤ (x5_1 : Int) := za
    have q195 : x5_1 < (l0.length : Int) := za
    obtain ⟨ad195, e195, hx195_0, hx195_1, hx195_2, hx195_3, hx195_4, hx195_5⟩ := at_T41 HR0.out x5_1 p195 q195
    cases e195
    replace p195 := eq_true p195
    replace q195 := eq_true q195
    have p196 : 0 ≤ (x5_1 : Int) := za
    have q196 : x5_1 < (l0.length : Int) := za
    obtain ⟨ad196, e196, hx196_0, hx196_1, hx196_2, hx196_3, hx196_4, hx196_5⟩ := at_T41 HR0.out x5_1 p196 q196
    obtain rfl : ad195 = ad196 := (by injection e196)
    replace p196 := eq_true p196
    replace q196 := eq_true q196
    have p197 : 0 ≤ (x5_1 : Int) := za
    have q197 : x5_1 < (l0.length : Int) := za
    obtain ⟨ad197, e197, hx197_0, hx197_1, hx197_2, hx197_3, hx197_4, hx197_5⟩ := at_T41 HR0.out x5_1 p197 q197
    obtain rfl : ad195 = ad197 := (by injection e197)
    replace p197 := eq_true p197
    replace q197 := eq_true q197
    have p198 : 0 ≤ (x5_1 : Int) := za
    have q198 : x5_1 < (l0.length : Int) := za
    obtain ⟨ad198, e198, hx198_0, hx198_1, hx198_2, hx198_3, hx198_4, hx198_5⟩ := at_T41 HR0.out x5_1 p198 q198
    obtain rfl : ad195 = ad198 := (by injection e198)
    replace p198 := eq_true p198
    replace q198 := eq_true q198
    have p199 : 0 ≤ (x5_1 : Int) := za
    have q199 : x5_1 < (l0.length : Int) := za
    obtain ⟨ad199, e199, hx199_0, hx199_1, hx199_2, hx199_3, hx199_4, hx199_5⟩ := at_T41 HR0.out x5_1 p199 q199
    obtain rfl : ad195 = ad199 := (by injection e199)
    replace p199 := eq_true p199
    replace q199 := eq_true q199
    have p200 : 0 ≤ (x5_1 : Int) := za
    have q200 : x5_1 < (l0.length : Int) := za
    obtain ⟨ad200, e200, hx200_0, hx200_1, hx200_2, hx200_3, hx200_4, hx200_5⟩ := at_T41 HR0.out x5_1 p200 q200
    obtain rfl : ad195 = ad200 := (by injection e200)
    replace p200 := eq_true p200
    replace q200 := eq_true q200
    go_wp2
    go_ret
    exact ⟨by first | rfl | (simp; done) | (simp [*]; done), by repeat (first | exact Drawn0.refl _ | apply Drawn0.step)⟩
   rw [if_pos c10] at H
   have c10b0 : (((rd_T41 l0 x5_1).f5) == (wrap64 ((wrap64 ((wrap64 ((wrap64 ((wrap64 (x1_1 + 1)) + 1)) + 1)) + 1)) + 1))) = true := beq_iff_eq.mpr c10
   have c10b1 : (((rd_T41 l0 x5_1).f5) != (wrap64 ((wrap64 ((wrap64 ((wrap64 ((wrap64 (x1_1 + 1)) + 1)) + 1)) + 1)) + 1))) = false := bne_eq_false_iff_eq.mpr c10
   clear c10
   have H' := Aside0.mk H
   clear H
   have p195 : 0 ≤ (x5_1 : Int) := za
   have q195 : x5_1 < (l0.length : Int) := za
   obtain ⟨ad195, e195, hx195_0, hx195_1, hx195_2, hx195_3, hx195_4, hx195_5⟩ := at_T41 HR0.out x5_1 p195 q195
   cases e195
   replace p195 := eq_true p195
   replace q195 := eq_true q195
   have p196 : 0 ≤ (x5_1 : Int) := za
   have q196 : x5_1 < (l0.length : Int) := za
   obtain ⟨ad196, e196, hx196_0, hx196_1, hx196_2, hx196_3, hx196_4, hx196_5⟩ := at_T41 HR0.out x5_1 p196 q196
   obtain rfl : ad195 = ad196 := (by injection e196)
   replace p196 := eq_true p196
   replace q196 := eq_true q196
   have p197 : 0 ≤ (x5_1 : Int) := za
   have q197 : x5_1 < (l0.length : Int) := za
   obtain ⟨ad197, e197, hx197_0, hx197_1, hx197_2, hx197_3, hx197_4, hx197_5⟩ := at_T41 HR0.out x5_1 p197 q197
   obtain rfl : ad195 = ad197 := (by injection e197)
   replace p197 := eq_true p197
   replace q197 := eq_true q197
   have p198 : 0 ≤ (x5_1 : Int) := za
   have q198 : x5_1 < (l0.length : Int) := za
   obtain ⟨ad198, e198, hx198_0, hx198_1, hx198_2, hx198_3, hx198_4, hx198_5⟩ := at_T41 HR0.out x5_1 p198 q198
   obtain rfl : ad195 = ad198 := (by injection e198)
   replace p198 := eq_true p198
   replace q198 := eq_true q198
   have p199 : 0 ≤ (x5_1 : Int) := za
   have q199 : x5_1 < (l0.length : Int) := za
   obtain ⟨ad199, e199, hx199_0, hx199_1, hx199_2, hx199_3, hx199_4, hx199_5⟩ := at_T41 HR0.out x5_1 p199 q199
   obtain rfl : ad195 = ad199 := (by injection e199)
   replace p199 := eq_true p199
   replace q199 := eq_true q199
   have p200 : 0 ≤ (x5_1 : Int) := za
   have q200 : x5_1 < (l0.length : Int) := za
   obtain ⟨ad200, e200, hx200_0, hx200_1, hx200_2, hx200_3, hx200_4, hx200_5⟩ := at_T41 HR0.out x5_1 p200 q200
   obtain rfl : ad195 = ad200 := (by injection e200)
   replace p200 := eq_true p200
   replace q200 := eq_true q200
   go_wp2
   go_roundg k1
   case measure => have := HK1.out; omega
   case rel => exact ⟨(wrap64 ((wrap64 ((wrap64 ((wrap64 ((wrap64 ((wrap64 (x1_1 + 1)) + 1)) + 1)) + 1)) + 1)) + 1)), (wrap64 (x5_1 + 1)), zi, zi, H', ⟨by have := HK1.out; omega⟩, by repeat (first | exact Drawn0.refl _ | apply Drawn0.step)⟩
end Go.Proofs.Ytbmplfpnhjhoiaa.QFnExactHandPartOf
