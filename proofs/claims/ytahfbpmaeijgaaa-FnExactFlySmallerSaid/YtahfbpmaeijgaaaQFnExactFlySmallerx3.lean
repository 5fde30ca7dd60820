/- The walk of what the law FnExactFlySmaller reaches: laid by a program of this session (ownprint.py). -/
import Derived.WalkMore
import Derived.Test.YtahfbpmaeijgaaaQFnExactFlySmallerx0
namespace Go.Proofs.Ytahfbpmaeijgaaa.QFnExactFlySmaller
open Go.RowKit Go.Proofs.YtahfbpmaeijgaaaW.PrintWords Go.Proofs.YtahfbpmaeijgaaaW.PrintLast Go.Proofs.YtahfbpmaeijgaaaW.PrintMore Go.Proofs.Ytahfbpmaeijgaaa.Z
attribute [local go_sem] max2_int min2_int max_two min_two max_three min_three max_four min_four zdn   -- for this text's walks alone
set_option linter.unusedVariables false
set_option linter.unusedSimpArgs false
mutual
def impl_FlySmaller.l0 : Nat → List (S97) → List (S97) → Int → Int → Option (Bool)
 | 0, _, _, _, _ => none
 | k + 1, x1, x9, x10, x11 => if x11 < x10 then (if 0 ≤ x11 then (if x11 < (x9.length : Int) then (if ((rd_T97 x9 x11).f2) > ((rd_T97 x9 x11).f3) then (impl_FlySmaller.j1 k x1 x9 x10 x11 true ((rd_T97 x9 x11).f0) ((rd_T97 x9 x11).f1) ((rd_T97 x9 x11).f2) ((rd_T97 x9 x11).f3) ((rd_T97 x9 x11).f4) ((rd_T97 x9 x11).f5)) else (impl_FlySmaller.j1 k x1 x9 x10 x11 (decide (((rd_T97 x9 x11).f4) > ((rd_T97 x9 x11).f5))) ((rd_T97 x9 x11).f0) ((rd_T97 x9 x11).f1) ((rd_T97 x9 x11).f2) ((rd_T97 x9 x11).f3) ((rd_T97 x9 x11).f4) ((rd_T97 x9 x11).f5))) else (none)) else (none)) else (some true)
def impl_FlySmaller.j1 : Nat → List (S97) → List (S97) → Int → Int → Bool → Int → Int → Int → Int → Int → Int → Option (Bool)
 | 0, _, _, _, _, _, _, _, _, _, _, _ => none
 | k + 1, x1, x9, x10, x11, x26, x130000, x130001, x130002, x130003, x130004, x130005 => if x26 = true then (impl_FlySmaller.l0 k x1 x9 x10 (wrap64 (x11 + 1))) else (impl_FlySmaller.l1 k x1 x9 x10 x11 x1 (x1.length : Int) 0 x130000 x130001 x130002 x130003 x130004 x130005)
def impl_FlySmaller.l1 : Nat → List (S97) → List (S97) → Int → Int → List (S97) → Int → Int → Int → Int → Int → Int → Int → Int → Option (Bool)
 | 0, _, _, _, _, _, _, _, _, _, _, _, _, _ => none
 | k + 1, x1, x9, x10, x11, x27, x28, x29, x130000, x130001, x130002, x130003, x130004, x130005 => if x29 < x28 then (if 0 ≤ x29 then (if x29 < (x27.length : Int) then (if x130000 = ((rd_T97 x27 x29).f0) then (if x130001 = ((rd_T97 x27 x29).f1) then (if ((rd_T97 x27 x29).f2) ≤ x130002 then (if x130003 ≤ ((rd_T97 x27 x29).f3) then (if ((rd_T97 x27 x29).f4) ≤ x130004 then (if x130005 ≤ ((rd_T97 x27 x29).f5) then (impl_FlySmaller.l0 k x1 x9 x10 (wrap64 (x11 + 1))) else (impl_FlySmaller.l1 k x1 x9 x10 x11 x27 x28 (wrap64 (x29 + 1)) x130000 x130001 x130002 x130003 x130004 x130005)) else (impl_FlySmaller.l1 k x1 x9 x10 x11 x27 x28 (wrap64 (x29 + 1)) x130000 x130001 x130002 x130003 x130004 x130005)) else (impl_FlySmaller.l1 k x1 x9 x10 x11 x27 x28 (wrap64 (x29 + 1)) x130000 x130001 x130002 x130003 x130004 x130005)) else (impl_FlySmaller.l1 k x1 x9 x10 x11 x27 x28 (wrap64 (x29 + 1)) x130000 x130001 x130002 x130003 x130004 x130005)) else (impl_FlySmaller.l1 k x1 x9 x10 x11 x27 x28 (wrap64 (x29 + 1)) x130000 x130001 x130002 x130003 x130004 x130005)) else (impl_FlySmaller.l1 k x1 x9 x10 x11 x27 x28 (wrap64 (x29 + 1)) x130000 x130001 x130002 x130003 x130004 x130005)) else (none)) else (none)) else (some false)
end
def impl_FlySmaller.f (k : Nat) (l0 : List (S97)) (l1 : List (S97)) : Option (Bool) := impl_FlySmaller.l0 k l1 l0 (l0.length : Int) 0
set_option maxHeartbeats 8000000 in
set_option maxRecDepth 100000 in
theorem impl_FlySmaller.calls (k : Nat) (A0 : Option Addr) (c0 : Nat) (l0 : List (S97)) (A1 : Option Addr) (c1 : Nat) (l1 : List (S97)) (r : Bool) (w : World) (hr0 : Kd.C k97 w A0 l0.length l0) (hc0 : l0.length ≤ c0) (hr1 : Kd.C k97 w A1 l1.length l1) (hc1 : l1.length ≤ c1) (h : impl_FlySmaller.f k l0 l1 = some r) :
 Calls Try.prog 35 #[.slice A0 l0.length c0, .slice A1 l1.length c1] w fun e w' => e = .returned (.bool r) ∧ Below w.heap.size w w' := by
 have hu97 := Try.underlying97
 have HR0 := zA hr0
 have HC0 := zA hc0
 clear hr0 hc0
 have HR1 := zA hr1
 have HC1 := zA hc1
 clear hr1 hc1
 have HB := zA (Below.refl w.heap.size w)
 have H : (impl_FlySmaller.l0 k l1 l0 (l0.length : Int) 0) = some r := h
 clear h
 have H' := zA H
 clear H
 go_enter Try.func35, Try.ntmps35
 go_wp2
 go_step3
 go_wp2
 go_step3
 go_wp2
 go_loopg [11] k (fun kq v11 w' => ∃ (x11_1 : Int), v11 = .int .i64 x11_1 ∧ Aside0 (impl_FlySmaller.l0 kq l1 l0 (l0.length : Int) x11_1 = some r) ∧ Aside0 (kq ≤ k) ∧ Aside0 (Below w.heap.size w w'))
 case atStart => exact ⟨(0), zi, H', ⟨Nat.le_refl _⟩, ⟨zs0 HB⟩⟩
 case round =>
  clear H'
  try clear c1
  try clear p2
  obtain ⟨x11_1, rfl, HA, HK1, HB⟩ := hrel
  cases gk with
  | zero => exact absurd HA.out (by simp [impl_FlySmaller.l0])
  | succ k1 =>
   have H := HA.out
   clear HA
   simp only [impl_FlySmaller.l0] at H
   by_cases c3 : x11_1 < (l0.length : Int)
   rotate_left
   ·rw [if_neg c3] at H
    have c3b0 : decide (x11_1 < (l0.length : Int)) = false := decide_eq_false c3
    clear c3
    obtain rfl := Option.some.inj H
    go_wp2
    go_ret
    exact ⟨ze, zs0 HB⟩
   rw [if_pos c3] at H
   have c3b0 : decide (x11_1 < (l0.length : Int)) = true := decide_eq_true c3
   clear c3
   by_cases c4 : 0 ≤ x11_1
   rotate_left
   ·rw [if_neg c4] at H
    exact absurd H (by simp)
   rw [if_pos c4] at H
   have c4b0 : decide (0 ≤ x11_1) = true := decide_eq_true c4
   clear c4
   by_cases c5 : x11_1 < (l0.length : Int)
   rotate_left
   ·rw [if_neg c5] at H
    exact absurd H (by simp)
   rw [if_pos c5] at H
   have c5b0 : decide (x11_1 < (l0.length : Int)) = true := decide_eq_true c5
   clear c5
   have HC6 := zA H
   clear H
   have p128 : 0 ≤ (x11_1 : Int) := za
   have q128 : x11_1 < (l0.length : Int) := za
   obtain ⟨ad128, e128, hx128_0, hx128_1, hx128_2, hx128_3, hx128_4, hx128_5⟩ := at_T97 HR0.out x11_1 p128 q128
   cases e128
   replace hx128_0 := zx HB hx128_0
   replace hx128_1 := zx HB hx128_1
   replace hx128_2 := zx HB hx128_2
   replace hx128_3 := zx HB hx128_3
   replace hx128_4 := zx HB hx128_4
   replace hx128_5 := zx HB hx128_5
   replace p128 := eq_true p128
   replace q128 := eq_true q128
   go_upto_region 4 with (first | ((with_reducible refine gate_dst (N := 6) rfl ?_); refine box_event (by rfl) (N := 6) (by rfl) (cs := #[.int .i64 0, .int .i64 0, .int .i64 0, .int .i64 0, .int .i64 0, .int .i64 0]) (t := 97) zg ?_; intro gb129 hg w7 hbox hb; have BK129 := zA hbox; have GW129 := zgs hg (zs0 HB); have GE129 := zgs hg (zs0 HB); replace HB := zE (zs0 HB) hb; clear hb hbox hg; obtain ⟨hcz8_0, hcz8_1, hcz8_2, hcz8_3, hcz8_4, hcz8_5⟩ := zd6 BK129; obtain ⟨hfz8_0, hfz8_1, hfz8_2, hfz8_3, hfz8_4, hfz8_5⟩ := zn6 BK129))
   (try simp only [Act.put, List.setIfInBounds_toArray, List.set_cons_zero, List.set_cons_succ])
   go_cut [26] (fun v26 wc => ∃ (kq : Nat) (x26_5 : Bool), v26 = .bool x26_5 ∧ Aside0 (impl_FlySmaller.j1 kq l1 l0 (l0.length : Int) x11_1 x26_5 ((rd_T97 l0 x11_1).f0) ((rd_T97 l0 x11_1).f1) ((rd_T97 l0 x11_1).f2) ((rd_T97 l0 x11_1).f3) ((rd_T97 l0 x11_1).f4) ((rd_T97 l0 x11_1).f5) = some r) ∧ Aside0 (kq ≤ k1) ∧ Aside0 (wc.heap[gb129]? = some (.cells #[.int .i64 ((rd_T97 l0 x11_1).f0), .int .i64 ((rd_T97 l0 x11_1).f1), .int .i64 ((rd_T97 l0 x11_1).f2), .int .i64 ((rd_T97 l0 x11_1).f3), .int .i64 ((rd_T97 l0 x11_1).f4), .int .i64 ((rd_T97 l0 x11_1).f5)] 97 (0, 0))) ∧ Aside0 (Below w.heap.size w wc))
   case first =>
    have H := HC6.out
    clear HC6
    by_cases c9 : ((rd_T97 l0 x11_1).f2) > ((rd_T97 l0 x11_1).f3)
    ·rw [if_pos c9] at H
     have c9b0 : decide (((rd_T97 l0 x11_1).f3) < ((rd_T97 l0 x11_1).f2)) = true := decide_eq_true c9
     clear c9
     (first | rw [c9b0] | (simp only [i64_w, i32_w]; rw [c9b0]) | skip)
     have H' := zA H
     clear H
     obtain ⟨hcz10_0, hcz10_1, hcz10_2, hcz10_3, hcz10_4, hcz10_5⟩ := zd6 BK129
     obtain ⟨hfz10_0, hfz10_1, hfz10_2, hfz10_3, hfz10_4, hfz10_5⟩ := zn6 BK129
     go_wp2
     go_meet
     case rel => exact ⟨_, (true), zi, H', ⟨by have := HK1.out; first | omega | exact Nat.le_refl _⟩, ⟨by (with_reducible repeat (first | refine blk_drewN ?_ _ | refine blk_drew ?_ | refine blk_alloc ?_ _)); refine blk_put (cs := #[.int .i64 ((rd_T97 l0 x11_1).f0), .int .i64 ((rd_T97 l0 x11_1).f1), .int .i64 ((rd_T97 l0 x11_1).f2), .int .i64 ((rd_T97 l0 x11_1).f3), .int .i64 ((rd_T97 l0 x11_1).f4), .int .i64 0]) ?_ 5 _ rfl; (with_reducible repeat (first | refine blk_drewN ?_ _ | refine blk_drew ?_ | refine blk_alloc ?_ _)); refine blk_put (cs := #[.int .i64 ((rd_T97 l0 x11_1).f0), .int .i64 ((rd_T97 l0 x11_1).f1), .int .i64 ((rd_T97 l0 x11_1).f2), .int .i64 ((rd_T97 l0 x11_1).f3), .int .i64 0, .int .i64 0]) ?_ 4 _ rfl; (with_reducible repeat (first | refine blk_drewN ?_ _ | refine blk_drew ?_ | refine blk_alloc ?_ _)); refine blk_put (cs := #[.int .i64 ((rd_T97 l0 x11_1).f0), .int .i64 ((rd_T97 l0 x11_1).f1), .int .i64 ((rd_T97 l0 x11_1).f2), .int .i64 0, .int .i64 0, .int .i64 0]) ?_ 3 _ rfl; (with_reducible repeat (first | refine blk_drewN ?_ _ | refine blk_drew ?_ | refine blk_alloc ?_ _)); refine blk_put (cs := #[.int .i64 ((rd_T97 l0 x11_1).f0), .int .i64 ((rd_T97 l0 x11_1).f1), .int .i64 0, .int .i64 0, .int .i64 0, .int .i64 0]) ?_ 2 _ rfl; (with_reducible repeat (first | refine blk_drewN ?_ _ | refine blk_drew ?_ | refine blk_alloc ?_ _)); refine blk_put (cs := #[.int .i64 ((rd_T97 l0 x11_1).f0), .int .i64 0, .int .i64 0, .int .i64 0, .int .i64 0, .int .i64 0]) ?_ 1 _ rfl; (with_reducible repeat (first | refine blk_drewN ?_ _ | refine blk_drew ?_ | refine blk_alloc ?_ _)); refine blk_put (cs := #[.int .i64 0, .int .i64 0, .int .i64 0, .int .i64 0, .int .i64 0, .int .i64 0]) ?_ 0 _ rfl; (with_reducible repeat (first | refine blk_drewN ?_ _ | refine blk_drew ?_ | refine blk_alloc ?_ _)); exact BK129.out⟩, ⟨zs1 HB GE129⟩⟩
    rw [if_neg c9] at H
    have c9b0 : decide (((rd_T97 l0 x11_1).f3) < ((rd_T97 l0 x11_1).f2)) = false := decide_eq_false c9
    clear c9
    (first | rw [c9b0] | (simp only [i64_w, i32_w]; rw [c9b0]) | skip)
    have H' := zA H
    clear H
    obtain ⟨hcz11_0, hcz11_1, hcz11_2, hcz11_3, hcz11_4, hcz11_5⟩ := zd6 BK129
    obtain ⟨hfz11_0, hfz11_1, hfz11_2, hfz11_3, hfz11_4, hfz11_5⟩ := zn6 BK129
    go_wp2
    go_meet
    case rel => exact ⟨_, (decide (((rd_T97 l0 x11_1).f4) > ((rd_T97 l0 x11_1).f5))), zi, H', ⟨by have := HK1.out; first | omega | exact Nat.le_refl _⟩, ⟨by (with_reducible repeat (first | refine blk_drewN ?_ _ | refine blk_drew ?_ | refine blk_alloc ?_ _)); refine blk_put (cs := #[.int .i64 ((rd_T97 l0 x11_1).f0), .int .i64 ((rd_T97 l0 x11_1).f1), .int .i64 ((rd_T97 l0 x11_1).f2), .int .i64 ((rd_T97 l0 x11_1).f3), .int .i64 ((rd_T97 l0 x11_1).f4), .int .i64 0]) ?_ 5 _ rfl; (with_reducible repeat (first | refine blk_drewN ?_ _ | refine blk_drew ?_ | refine blk_alloc ?_ _)); refine blk_put (cs := #[.int .i64 ((rd_T97 l0 x11_1).f0), .int .i64 ((rd_T97 l0 x11_1).f1), .int .i64 ((rd_T97 l0 x11_1).f2), .int .i64 ((rd_T97 l0 x11_1).f3), .int .i64 0, .int .i64 0]) ?_ 4 _ rfl; (with_reducible repeat (first | refine blk_drewN ?_ _ | refine blk_drew ?_ | refine blk_alloc ?_ _)); refine blk_put (cs := #[.int .i64 ((rd_T97 l0 x11_1).f0), .int .i64 ((rd_T97 l0 x11_1).f1), .int .i64 ((rd_T97 l0 x11_1).f2), .int .i64 0, .int .i64 0, .int .i64 0]) ?_ 3 _ rfl; (with_reducible repeat (first | refine blk_drewN ?_ _ | refine blk_drew ?_ | refine blk_alloc ?_ _)); refine blk_put (cs := #[.int .i64 ((rd_T97 l0 x11_1).f0), .int .i64 ((rd_T97 l0 x11_1).f1), .int .i64 0, .int .i64 0, .int .i64 0, .int .i64 0]) ?_ 2 _ rfl; (with_reducible repeat (first | refine blk_drewN ?_ _ | refine blk_drew ?_ | refine blk_alloc ?_ _)); refine blk_put (cs := #[.int .i64 ((rd_T97 l0 x11_1).f0), .int .i64 0, .int .i64 0, .int .i64 0, .int .i64 0, .int .i64 0]) ?_ 1 _ rfl; (with_reducible repeat (first | refine blk_drewN ?_ _ | refine blk_drew ?_ | refine blk_alloc ?_ _)); refine blk_put (cs := #[.int .i64 0, .int .i64 0, .int .i64 0, .int .i64 0, .int .i64 0, .int .i64 0]) ?_ 0 _ rfl; (with_reducible repeat (first | refine blk_drewN ?_ _ | refine blk_drew ?_ | refine blk_alloc ?_ _)); exact BK129.out⟩, ⟨zs1 HB GE129⟩⟩
   case rest =>
    clear HC6
    try clear c1
    try clear p1
    try clear q1
    try clear hx1
    try clear p2
    try clear c3
    try clear c3b0
    try clear c4
    try clear c4b0
    try clear c5
    try clear c5b0
    try clear c9
    try clear c9b0
    try clear hcz10_0 hcz10_1 hcz10_2 hcz10_3 hcz10_4 hcz10_5
    try clear hcz11_0 hcz11_1 hcz11_2 hcz11_3 hcz11_4 hcz11_5
    try clear hcz8_0 hcz8_1 hcz8_2 hcz8_3 hcz8_4 hcz8_5
    try clear hfz10_0 hfz10_1 hfz10_2 hfz10_3 hfz10_4 hfz10_5
    try clear hfz11_0 hfz11_1 hfz11_2 hfz11_3 hfz11_4 hfz11_5
    try clear hfz8_0 hfz8_1 hfz8_2 hfz8_3 hfz8_4 hfz8_5
    try clear hx128_0
    try clear hx128_1
    try clear hx128_2
    try clear hx128_3
    try clear hx128_4
    try clear hx128_5
    try clear p128
    try clear p2
    try clear q128
    obtain ⟨kq, x26_5, rfl, HA, HJ5, BK129, HB⟩ := hcut
    cases kq with
    | zero => exact absurd HA.out (by simp [impl_FlySmaller.j1])
    | succ kj5 =>
     have H := HA.out
     clear HA
     simp only [impl_FlySmaller.j1] at H
     by_cases c12 : x26_5 = true
     ·subst c12
      have H1 : (impl_FlySmaller.l0 kj5 l1 l0 (l0.length : Int) (wrap64 (x11_1 + 1))) = some r := by rw [if_pos rfl] at H; exact H
      clear H
      have H := H1
      clear H1
      have H' := zA H
      clear H
      go_wp2
      go_roundg kj5
      case measure => have := HK1.out; have := HJ5.out; omega
      case rel => exact ⟨(wrap64 (x11_1 + 1)), zi, H', ⟨by have := HK1.out; have := HJ5.out; omega⟩, ⟨zs1 HB GE129⟩⟩
     replace c12 := Bool.eq_false_iff.mpr c12
     subst c12
     have H1 : (impl_FlySmaller.l1 kj5 l1 l0 (l0.length : Int) x11_1 l1 (l1.length : Int) 0 ((rd_T97 l0 x11_1).f0) ((rd_T97 l0 x11_1).f1) ((rd_T97 l0 x11_1).f2) ((rd_T97 l0 x11_1).f3) ((rd_T97 l0 x11_1).f4) ((rd_T97 l0 x11_1).f5)) = some r := by rw [if_neg (show ¬ (false = true) by decide)] at H; exact H
     clear H
     have H := H1
     clear H1
     have H' := zA H
     clear H
     go_wp2
     go_loopg [29] kj5 (fun kq v29 w' => ∃ (x29_3 : Int), v29 = .int .i64 x29_3 ∧ Aside0 (impl_FlySmaller.l1 kq l1 l0 (l0.length : Int) x11_1 l1 (l1.length : Int) x29_3 ((rd_T97 l0 x11_1).f0) ((rd_T97 l0 x11_1).f1) ((rd_T97 l0 x11_1).f2) ((rd_T97 l0 x11_1).f3) ((rd_T97 l0 x11_1).f4) ((rd_T97 l0 x11_1).f5) = some r) ∧ Aside0 (kq ≤ kj5) ∧ Aside0 (w'.heap[gb129]? = some (.cells #[.int .i64 ((rd_T97 l0 x11_1).f0), .int .i64 ((rd_T97 l0 x11_1).f1), .int .i64 ((rd_T97 l0 x11_1).f2), .int .i64 ((rd_T97 l0 x11_1).f3), .int .i64 ((rd_T97 l0 x11_1).f4), .int .i64 ((rd_T97 l0 x11_1).f5)] 97 (0, 0))) ∧ Aside0 (Below w.heap.size w w'))
     case atStart => exact ⟨(0), zi, H', ⟨Nat.le_refl _⟩, ⟨zh BK129⟩, ⟨zs1 HB GE129⟩⟩
     case round =>
      clear H'
      try clear c1
      try clear p1
      try clear q1
      try clear hx1
      try clear p2
      try clear c3
      try clear c3b0
      try clear c4
      try clear c4b0
      try clear c5
      try clear c5b0
      try clear p6
      try clear c9
      try clear c9b0
      try clear c12
      try clear p12
      try clear q12
      try clear hx12
      try clear hcz10_0 hcz10_1 hcz10_2 hcz10_3 hcz10_4 hcz10_5
      try clear hcz11_0 hcz11_1 hcz11_2 hcz11_3 hcz11_4 hcz11_5
      try clear hcz8_0 hcz8_1 hcz8_2 hcz8_3 hcz8_4 hcz8_5
      try clear hfz10_0 hfz10_1 hfz10_2 hfz10_3 hfz10_4 hfz10_5
      try clear hfz11_0 hfz11_1 hfz11_2 hfz11_3 hfz11_4 hfz11_5
      try clear hfz8_0 hfz8_1 hfz8_2 hfz8_3 hfz8_4 hfz8_5
      try clear hx128_0
      try clear hx128_1
      try clear hx128_2
      try clear hx128_3
      try clear hx128_4
      try clear hx128_5
      try clear p1
      try clear p128
      try clear p2
      try clear q1
      try clear q128
      obtain ⟨x29_3, rfl, HA, HK3, BK129, HB⟩ := hrel
      cases gk with
      | zero => exact absurd HA.out (by simp [impl_FlySmaller.l1])
      | succ k3 =>
       have H := HA.out
       clear HA
       simp only [impl_FlySmaller.l1] at H
       by_cases c13 : x29_3 < (l1.length : Int)
       rotate_left
       ·rw [if_neg c13] at H
        have c13b0 : decide (x29_3 < (l1.length : Int)) = false := decide_eq_false c13
        clear c13
        obtain rfl := Option.some.inj H
        go_wp2
        go_ret
        exact ⟨ze, zs1 HB GE129⟩
       rw [if_pos c13] at H
       have c13b0 : decide (x29_3 < (l1.length : Int)) = true := decide_eq_true c13
       clear c13
       by_cases c14 : 0 ≤ x29_3
       rotate_left
       ·rw [if_neg c14] at H
        exact absurd H (by simp)
       rw [if_pos c14] at H
       have c14b0 : decide (0 ≤ x29_3) = true := decide_eq_true c14
       clear c14
       by_cases c15 : x29_3 < (l1.length : Int)
       rotate_left
       ·rw [if_neg c15] at H
        exact absurd H (by simp)
       rw [if_pos c15] at H
       have c15b0 : decide (x29_3 < (l1.length : Int)) = true := decide_eq_true c15
       clear c15
       by_cases c16 : ((rd_T97 l0 x11_1).f0) = ((rd_T97 l1 x29_3).f0)
       rotate_left
       ·rw [if_neg c16] at H
        have c16b0 : (((rd_T97 l0 x11_1).f0) == ((rd_T97 l1 x29_3).f0)) = false := beq_eq_false_iff_ne.mpr c16
        have c16b1 : (((rd_T97 l0 x11_1).f0) != ((rd_T97 l1 x29_3).f0)) = true := bne_iff_ne.mpr c16
        have H' := zA H
        clear H
        have p130 : 0 ≤ (x29_3 : Int) := za
        have q130 : x29_3 < (l1.length : Int) := za
        obtain ⟨ad130, e130, hx130_0, hx130_1, hx130_2, hx130_3, hx130_4, hx130_5⟩ := at_T97 HR1.out x29_3 p130 q130
        cases e130
        replace hx130_0 := zx HB hx130_0
        replace hx130_1 := zx HB hx130_1
        replace hx130_2 := zx HB hx130_2
        replace hx130_3 := zx HB hx130_3
        replace hx130_4 := zx HB hx130_4
        replace hx130_5 := zx HB hx130_5
        replace p130 := eq_true p130
        replace q130 := eq_true q130
        go_wp2_with (first | ((with_reducible refine gate_dst (N := 8) rfl ?_); refine box_event (by rfl) (N := 8) (by rfl) (cs := #[.int .i64 0, .int .i64 0, .int .i64 0, .int .i64 0, .int .i64 0, .int .i64 0]) (t := 97) zg ?_; intro gb131 hg w46 hbox hb; have BK131 := zA hbox; have GW131 := zgs hg (zs1 HB GE129); have GE131 := zgs hg (zs1 HB GE129); have NB129_131 := zne hg BK129; have NB131_129 := znf hg BK129; replace BK129 := zb BK129 hb; replace HB := zE (zs1 HB GE129) hb; clear hb hbox hg; have hnb47 := NB131_129.out; have hnc47 := NB129_131.out; obtain ⟨hcz48_0, hcz48_1, hcz48_2, hcz48_3, hcz48_4, hcz48_5⟩ := zd6 BK131; obtain ⟨hfz48_0, hfz48_1, hfz48_2, hfz48_3, hfz48_4, hfz48_5⟩ := zn6 BK131; obtain ⟨hcz49_0, hcz49_1, hcz49_2, hcz49_3, hcz49_4, hcz49_5⟩ := zd6 BK129; obtain ⟨hfz49_0, hfz49_1, hfz49_2, hfz49_3, hfz49_4, hfz49_5⟩ := zn6 BK129))
        go_roundg k3
        case measure => have := HK1.out; have := HJ5.out; have := HK3.out; omega
        case rel => exact ⟨(wrap64 (x29_3 + 1)), zi, H', ⟨by have := HK1.out; have := HJ5.out; have := HK3.out; omega⟩, ⟨by (with_reducible repeat (first | refine blk_drewN ?_ _ | refine blk_drew ?_ | refine blk_alloc ?_ _)); refine blk_far ?_ NB129_131.out _; (with_reducible repeat (first | refine blk_drewN ?_ _ | refine blk_drew ?_ | refine blk_alloc ?_ _)); refine blk_far ?_ NB129_131.out _; (with_reducible repeat (first | refine blk_drewN ?_ _ | refine blk_drew ?_ | refine blk_alloc ?_ _)); refine blk_far ?_ NB129_131.out _; (with_reducible repeat (first | refine blk_drewN ?_ _ | refine blk_drew ?_ | refine blk_alloc ?_ _)); refine blk_far ?_ NB129_131.out _; (with_reducible repeat (first | refine blk_drewN ?_ _ | refine blk_drew ?_ | refine blk_alloc ?_ _)); refine blk_far ?_ NB129_131.out _; (with_reducible repeat (first | refine blk_drewN ?_ _ | refine blk_drew ?_ | refine blk_alloc ?_ _)); refine blk_far ?_ NB129_131.out _; (with_reducible repeat (first | refine blk_drewN ?_ _ | refine blk_drew ?_ | refine blk_alloc ?_ _)); exact BK129.out⟩, ⟨zs2 HB GE129 GE131⟩⟩
       rw [if_pos c16] at H
       have c16b0 : (((rd_T97 l0 x11_1).f0) == ((rd_T97 l1 x29_3).f0)) = true := beq_iff_eq.mpr c16
       have c16b1 : (((rd_T97 l0 x11_1).f0) != ((rd_T97 l1 x29_3).f0)) = false := bne_eq_false_iff_eq.mpr c16
       clear c16
       by_cases c17 : ((rd_T97 l0 x11_1).f1) = ((rd_T97 l1 x29_3).f1)
       rotate_left
       ·rw [if_neg c17] at H
        have c17b0 : (((rd_T97 l0 x11_1).f1) == ((rd_T97 l1 x29_3).f1)) = false := beq_eq_false_iff_ne.mpr c17
        have c17b1 : (((rd_T97 l0 x11_1).f1) != ((rd_T97 l1 x29_3).f1)) = true := bne_iff_ne.mpr c17
        have H' := zA H
        clear H
        have p130 : 0 ≤ (x29_3 : Int) := za
        have q130 : x29_3 < (l1.length : Int) := za
        obtain ⟨ad130, e130, hx130_0, hx130_1, hx130_2, hx130_3, hx130_4, hx130_5⟩ := at_T97 HR1.out x29_3 p130 q130
        cases e130
        replace hx130_0 := zx HB hx130_0
        replace hx130_1 := zx HB hx130_1
        replace hx130_2 := zx HB hx130_2
        replace hx130_3 := zx HB hx130_3
        replace hx130_4 := zx HB hx130_4
        replace hx130_5 := zx HB hx130_5
        replace p130 := eq_true p130
        replace q130 := eq_true q130
        go_wp2_with (first | ((with_reducible refine gate_dst (N := 8) rfl ?_); refine box_event (by rfl) (N := 8) (by rfl) (cs := #[.int .i64 0, .int .i64 0, .int .i64 0, .int .i64 0, .int .i64 0, .int .i64 0]) (t := 97) zg ?_; intro gb131 hg w42 hbox hb; have BK131 := zA hbox; have GW131 := zgs hg (zs1 HB GE129); have GE131 := zgs hg (zs1 HB GE129); have NB129_131 := zne hg BK129; have NB131_129 := znf hg BK129; replace BK129 := zb BK129 hb; replace HB := zE (zs1 HB GE129) hb; clear hb hbox hg; have hnb43 := NB131_129.out; have hnc43 := NB129_131.out; obtain ⟨hcz44_0, hcz44_1, hcz44_2, hcz44_3, hcz44_4, hcz44_5⟩ := zd6 BK131; obtain ⟨hfz44_0, hfz44_1, hfz44_2, hfz44_3, hfz44_4, hfz44_5⟩ := zn6 BK131; obtain ⟨hcz45_0, hcz45_1, hcz45_2, hcz45_3, hcz45_4, hcz45_5⟩ := zd6 BK129; obtain ⟨hfz45_0, hfz45_1, hfz45_2, hfz45_3, hfz45_4, hfz45_5⟩ := zn6 BK129))
        go_roundg k3
        case measure => have := HK1.out; have := HJ5.out; have := HK3.out; omega
        case rel => exact ⟨(wrap64 (x29_3 + 1)), zi, H', ⟨by have := HK1.out; have := HJ5.out; have := HK3.out; omega⟩, ⟨by (with_reducible repeat (first | refine blk_drewN ?_ _ | refine blk_drew ?_ | refine blk_alloc ?_ _)); refine blk_far ?_ NB129_131.out _; (with_reducible repeat (first | refine blk_drewN ?_ _ | refine blk_drew ?_ | refine blk_alloc ?_ _)); refine blk_far ?_ NB129_131.out _; (with_reducible repeat (first | refine blk_drewN ?_ _ | refine blk_drew ?_ | refine blk_alloc ?_ _)); refine blk_far ?_ NB129_131.out _; (with_reducible repeat (first | refine blk_drewN ?_ _ | refine blk_drew ?_ | refine blk_alloc ?_ _)); refine blk_far ?_ NB129_131.out _; (with_reducible repeat (first | refine blk_drewN ?_ _ | refine blk_drew ?_ | refine blk_alloc ?_ _)); refine blk_far ?_ NB129_131.out _; (with_reducible repeat (first | refine blk_drewN ?_ _ | refine blk_drew ?_ | refine blk_alloc ?_ _)); refine blk_far ?_ NB129_131.out _; (with_reducible repeat (first | refine blk_drewN ?_ _ | refine blk_drew ?_ | refine blk_alloc ?_ _)); exact BK129.out⟩, ⟨zs2 HB GE129 GE131⟩⟩
       rw [if_pos c17] at H
       have c17b0 : (((rd_T97 l0 x11_1).f1) == ((rd_T97 l1 x29_3).f1)) = true := beq_iff_eq.mpr c17
       have c17b1 : (((rd_T97 l0 x11_1).f1) != ((rd_T97 l1 x29_3).f1)) = false := bne_eq_false_iff_eq.mpr c17
       clear c17
       by_cases c18 : ((rd_T97 l1 x29_3).f2) ≤ ((rd_T97 l0 x11_1).f2)
       rotate_left
       ·rw [if_neg c18] at H
        have c18b0 : decide (((rd_T97 l1 x29_3).f2) ≤ ((rd_T97 l0 x11_1).f2)) = false := decide_eq_false c18
        clear c18
        have H' := zA H
        clear H
        have p130 : 0 ≤ (x29_3 : Int) := za
        have q130 : x29_3 < (l1.length : Int) := za
        obtain ⟨ad130, e130, hx130_0, hx130_1, hx130_2, hx130_3, hx130_4, hx130_5⟩ := at_T97 HR1.out x29_3 p130 q130
        cases e130
        replace hx130_0 := zx HB hx130_0
        replace hx130_1 := zx HB hx130_1
        replace hx130_2 := zx HB hx130_2
        replace hx130_3 := zx HB hx130_3
        replace hx130_4 := zx HB hx130_4
        replace hx130_5 := zx HB hx130_5
        replace p130 := eq_true p130
        replace q130 := eq_true q130
        go_wp2_with (first | ((with_reducible refine gate_dst (N := 8) rfl ?_); refine box_event (by rfl) (N := 8) (by rfl) (cs := #[.int .i64 0, .int .i64 0, .int .i64 0, .int .i64 0, .int .i64 0, .int .i64 0]) (t := 97) zg ?_; intro gb131 hg w38 hbox hb; have BK131 := zA hbox; have GW131 := zgs hg (zs1 HB GE129); have GE131 := zgs hg (zs1 HB GE129); have NB129_131 := zne hg BK129; have NB131_129 := znf hg BK129; replace BK129 := zb BK129 hb; replace HB := zE (zs1 HB GE129) hb; clear hb hbox hg; have hnb39 := NB131_129.out; have hnc39 := NB129_131.out; obtain ⟨hcz40_0, hcz40_1, hcz40_2, hcz40_3, hcz40_4, hcz40_5⟩ := zd6 BK131; obtain ⟨hfz40_0, hfz40_1, hfz40_2, hfz40_3, hfz40_4, hfz40_5⟩ := zn6 BK131; obtain ⟨hcz41_0, hcz41_1, hcz41_2, hcz41_3, hcz41_4, hcz41_5⟩ := zd6 BK129; obtain ⟨hfz41_0, hfz41_1, hfz41_2, hfz41_3, hfz41_4, hfz41_5⟩ := zn6 BK129))
        go_roundg k3
        case measure => have := HK1.out; have := HJ5.out; have := HK3.out; omega
        case rel => exact ⟨(wrap64 (x29_3 + 1)), zi, H', ⟨by have := HK1.out; have := HJ5.out; have := HK3.out; omega⟩, ⟨by (with_reducible repeat (first | refine blk_drewN ?_ _ | refine blk_drew ?_ | refine blk_alloc ?_ _)); refine blk_far ?_ NB129_131.out _; (with_reducible repeat (first | refine blk_drewN ?_ _ | refine blk_drew ?_ | refine blk_alloc ?_ _)); refine blk_far ?_ NB129_131.out _; (with_reducible repeat (first | refine blk_drewN ?_ _ | refine blk_drew ?_ | refine blk_alloc ?_ _)); refine blk_far ?_ NB129_131.out _; (with_reducible repeat (first | refine blk_drewN ?_ _ | refine blk_drew ?_ | refine blk_alloc ?_ _)); refine blk_far ?_ NB129_131.out _; (with_reducible repeat (first | refine blk_drewN ?_ _ | refine blk_drew ?_ | refine blk_alloc ?_ _)); refine blk_far ?_ NB129_131.out _; (with_reducible repeat (first | refine blk_drewN ?_ _ | refine blk_drew ?_ | refine blk_alloc ?_ _)); refine blk_far ?_ NB129_131.out _; (with_reducible repeat (first | refine blk_drewN ?_ _ | refine blk_drew ?_ | refine blk_alloc ?_ _)); exact BK129.out⟩, ⟨zs2 HB GE129 GE131⟩⟩
       rw [if_pos c18] at H
       have c18b0 : decide (((rd_T97 l1 x29_3).f2) ≤ ((rd_T97 l0 x11_1).f2)) = true := decide_eq_true c18
       clear c18
       by_cases c19 : ((rd_T97 l0 x11_1).f3) ≤ ((rd_T97 l1 x29_3).f3)
       rotate_left
       ·rw [if_neg c19] at H
        have c19b0 : decide (((rd_T97 l0 x11_1).f3) ≤ ((rd_T97 l1 x29_3).f3)) = false := decide_eq_false c19
        clear c19
        have H' := zA H
        clear H
        have p130 : 0 ≤ (x29_3 : Int) := za
        have q130 : x29_3 < (l1.length : Int) := za
        obtain ⟨ad130, e130, hx130_0, hx130_1, hx130_2, hx130_3, hx130_4, hx130_5⟩ := at_T97 HR1.out x29_3 p130 q130
        cases e130
        replace hx130_0 := zx HB hx130_0
        replace hx130_1 := zx HB hx130_1
        replace hx130_2 := zx HB hx130_2
        replace hx130_3 := zx HB hx130_3
        replace hx130_4 := zx HB hx130_4
        replace hx130_5 := zx HB hx130_5
        replace p130 := eq_true p130
        replace q130 := eq_true q130
        go_wp2_with (first | ((with_reducible refine gate_dst (N := 8) rfl ?_); refine box_event (by rfl) (N := 8) (by rfl) (cs := #[.int .i64 0, .int .i64 0, .int .i64 0, .int .i64 0, .int .i64 0, .int .i64 0]) (t := 97) zg ?_; intro gb131 hg w34 hbox hb; have BK131 := zA hbox; have GW131 := zgs hg (zs1 HB GE129); have GE131 := zgs hg (zs1 HB GE129); have NB129_131 := zne hg BK129; have NB131_129 := znf hg BK129; replace BK129 := zb BK129 hb; replace HB := zE (zs1 HB GE129) hb; clear hb hbox hg; have hnb35 := NB131_129.out; have hnc35 := NB129_131.out; obtain ⟨hcz36_0, hcz36_1, hcz36_2, hcz36_3, hcz36_4, hcz36_5⟩ := zd6 BK131; obtain ⟨hfz36_0, hfz36_1, hfz36_2, hfz36_3, hfz36_4, hfz36_5⟩ := zn6 BK131; obtain ⟨hcz37_0, hcz37_1, hcz37_2, hcz37_3, hcz37_4, hcz37_5⟩ := zd6 BK129; obtain ⟨hfz37_0, hfz37_1, hfz37_2, hfz37_3, hfz37_4, hfz37_5⟩ := zn6 BK129))
        go_roundg k3
        case measure => have := HK1.out; have := HJ5.out; have := HK3.out; omega
        case rel => exact ⟨(wrap64 (x29_3 + 1)), zi, H', ⟨by have := HK1.out; have := HJ5.out; have := HK3.out; omega⟩, ⟨by (with_reducible repeat (first | refine blk_drewN ?_ _ | refine blk_drew ?_ | refine blk_alloc ?_ _)); refine blk_far ?_ NB129_131.out _; (with_reducible repeat (first | refine blk_drewN ?_ _ | refine blk_drew ?_ | refine blk_alloc ?_ _)); refine blk_far ?_ NB129_131.out _; (with_reducible repeat (first | refine blk_drewN ?_ _ | refine blk_drew ?_ | refine blk_alloc ?_ _)); refine blk_far ?_ NB129_131.out _; (with_reducible repeat (first | refine blk_drewN ?_ _ | refine blk_drew ?_ | refine blk_alloc ?_ _)); refine blk_far ?_ NB129_131.out _; (with_reducible repeat (first | refine blk_drewN ?_ _ | refine blk_drew ?_ | refine blk_alloc ?_ _)); refine blk_far ?_ NB129_131.out _; (with_reducible repeat (first | refine blk_drewN ?_ _ | refine blk_drew ?_ | refine blk_alloc ?_ _)); refine blk_far ?_ NB129_131.out _; (with_reducible repeat (first | refine blk_drewN ?_ _ | refine blk_drew ?_ | refine blk_alloc ?_ _)); exact BK129.out⟩, ⟨zs2 HB GE129 GE131⟩⟩
       rw [if_pos c19] at H
       have c19b0 : decide (((rd_T97 l0 x11_1).f3) ≤ ((rd_T97 l1 x29_3).f3)) = true := decide_eq_true c19
       clear c19
       by_cases c20 : ((rd_T97 l1 x29_3).f4) ≤ ((rd_T97 l0 x11_1).f4)
       rotate_left
       ·rw [if_neg c20] at H
        have c20b0 : decide (((rd_T97 l1 x29_3).f4) ≤ ((rd_T97 l0 x11_1).f4)) = false := decide_eq_false c20
        clear c20
        have H' := zA H
        clear H
        have p130 : 0 ≤ (x29_3 : Int) := za
        have q130 : x29_3 < (l1.length : Int) := za
        obtain ⟨ad130, e130, hx130_0, hx130_1, hx130_2, hx130_3, hx130_4, hx130_5⟩ := at_T97 HR1.out x29_3 p130 q130
        cases e130
        replace hx130_0 := zx HB hx130_0
        replace hx130_1 := zx HB hx130_1
        replace hx130_2 := zx HB hx130_2
        replace hx130_3 := zx HB hx130_3
        replace hx130_4 := zx HB hx130_4
        replace hx130_5 := zx HB hx130_5
        replace p130 := eq_true p130
        replace q130 := eq_true q130
        go_wp2_with (first | ((with_reducible refine gate_dst (N := 8) rfl ?_); refine box_event (by rfl) (N := 8) (by rfl) (cs := #[.int .i64 0, .int .i64 0, .int .i64 0, .int .i64 0, .int .i64 0, .int .i64 0]) (t := 97) zg ?_; intro gb131 hg w30 hbox hb; have BK131 := zA hbox; have GW131 := zgs hg (zs1 HB GE129); have GE131 := zgs hg (zs1 HB GE129); have NB129_131 := zne hg BK129; have NB131_129 := znf hg BK129; replace BK129 := zb BK129 hb; replace HB := zE (zs1 HB GE129) hb; clear hb hbox hg; have hnb31 := NB131_129.out; have hnc31 := NB129_131.out; obtain ⟨hcz32_0, hcz32_1, hcz32_2, hcz32_3, hcz32_4, hcz32_5⟩ := zd6 BK131; obtain ⟨hfz32_0, hfz32_1, hfz32_2, hfz32_3, hfz32_4, hfz32_5⟩ := zn6 BK131; obtain ⟨hcz33_0, hcz33_1, hcz33_2, hcz33_3, hcz33_4, hcz33_5⟩ := zd6 BK129; obtain ⟨hfz33_0, hfz33_1, hfz33_2, hfz33_3, hfz33_4, hfz33_5⟩ := zn6 BK129))
        go_roundg k3
        case measure => have := HK1.out; have := HJ5.out; have := HK3.out; omega
        case rel => exact ⟨(wrap64 (x29_3 + 1)), zi, H', ⟨by have := HK1.out; have := HJ5.out; have := HK3.out; omega⟩, ⟨by (with_reducible repeat (first | refine blk_drewN ?_ _ | refine blk_drew ?_ | refine blk_alloc ?_ _)); refine blk_far ?_ NB129_131.out _; (with_reducible repeat (first | refine blk_drewN ?_ _ | refine blk_drew ?_ | refine blk_alloc ?_ _)); refine blk_far ?_ NB129_131.out _; (with_reducible repeat (first | refine blk_drewN ?_ _ | refine blk_drew ?_ | refine blk_alloc ?_ _)); refine blk_far ?_ NB129_131.out _; (with_reducible repeat (first | refine blk_drewN ?_ _ | refine blk_drew ?_ | refine blk_alloc ?_ _)); refine blk_far ?_ NB129_131.out _; (with_reducible repeat (first | refine blk_drewN ?_ _ | refine blk_drew ?_ | refine blk_alloc ?_ _)); refine blk_far ?_ NB129_131.out _; (with_reducible repeat (first | refine blk_drewN ?_ _ | refine blk_drew ?_ | refine blk_alloc ?_ _)); refine blk_far ?_ NB129_131.out _; (with_reducible repeat (first | refine blk_drewN ?_ _ | refine blk_drew ?_ | refine blk_alloc ?_ _)); exact BK129.out⟩, ⟨zs2 HB GE129 GE131⟩⟩
       rw [if_pos c20] at H
       have c20b0 : decide (((rd_T97 l1 x29_3).f4) ≤ ((rd_T97 l0 x11_1).f4)) = true := decide_eq_true c20
       clear c20
       by_cases c21 : ((rd_T97 l0 x11_1).f5) ≤ ((rd_T97 l1 x29_3).f5)
       ·rw [if_pos c21] at H
        have c21b0 : decide (((rd_T97 l0 x11_1).f5) ≤ ((rd_T97 l1 x29_3).f5)) = true := decide_eq_true c21
        clear c21
        have H' := zA H
        clear H
        have p130 : 0 ≤ (x29_3 : Int) := za
        have q130 : x29_3 < (l1.length : Int) := za
        obtain ⟨ad130, e130, hx130_0, hx130_1, hx130_2, hx130_3, hx130_4, hx130_5⟩ := at_T97 HR1.out x29_3 p130 q130
        cases e130
        replace hx130_0 := zx HB hx130_0
        replace hx130_1 := zx HB hx130_1
        replace hx130_2 := zx HB hx130_2
        replace hx130_3 := zx HB hx130_3
        replace hx130_4 := zx HB hx130_4
        replace hx130_5 := zx HB hx130_5
        replace p130 := eq_true p130
        replace q130 := eq_true q130
        go_wp2_with (first | ((with_reducible refine gate_dst (N := 8) rfl ?_); refine box_event (by rfl) (N := 8) (by rfl) (cs := #[.int .i64 0, .int .i64 0, .int .i64 0, .int .i64 0, .int .i64 0, .int .i64 0]) (t := 97) zg ?_; intro gb131 hg w22 hbox hb; have BK131 := zA hbox; have GW131 := zgs hg (zs1 HB GE129); have GE131 := zgs hg (zs1 HB GE129); have NB129_131 := zne hg BK129; have NB131_129 := znf hg BK129; replace BK129 := zb BK129 hb; replace HB := zE (zs1 HB GE129) hb; clear hb hbox hg; have hnb23 := NB131_129.out; have hnc23 := NB129_131.out; obtain ⟨hcz24_0, hcz24_1, hcz24_2, hcz24_3, hcz24_4, hcz24_5⟩ := zd6 BK131; obtain ⟨hfz24_0, hfz24_1, hfz24_2, hfz24_3, hfz24_4, hfz24_5⟩ := zn6 BK131; obtain ⟨hcz25_0, hcz25_1, hcz25_2, hcz25_3, hcz25_4, hcz25_5⟩ := zd6 BK129; obtain ⟨hfz25_0, hfz25_1, hfz25_2, hfz25_3, hfz25_4, hfz25_5⟩ := zn6 BK129))
        go_roundg k3
        case measure => have := HK1.out; have := HJ5.out; have := HK3.out; omega
        case rel => exact ⟨(wrap64 (x11_1 + 1)), zi, H', ⟨by have := HK1.out; have := HJ5.out; have := HK3.out; omega⟩, ⟨zs2 HB GE129 GE131⟩⟩
       rw [if_neg c21] at H
       have c21b0 : decide (((rd_T97 l0 x11_1).f5) ≤ ((rd_T97 l1 x29_3).f5)) = false := decide_eq_false c21
       clear c21
       have H' := zA H
       clear H
       have p130 : 0 ≤ (x29_3 : Int) := za
       have q130 : x29_3 < (l1.length : Int) := za
       obtain ⟨ad130, e130, hx130_0, hx130_1, hx130_2, hx130_3, hx130_4, hx130_5⟩ := at_T97 HR1.out x29_3 p130 q130
       cases e130
       replace hx130_0 := zx HB hx130_0
       replace hx130_1 := zx HB hx130_1
       replace hx130_2 := zx HB hx130_2
       replace hx130_3 := zx HB hx130_3
       replace hx130_4 := zx HB hx130_4
       replace hx130_5 := zx HB hx130_5
       replace p130 := eq_true p130
       replace q130 := eq_true q130
       go_wp2_with (first | ((with_reducible refine gate_dst (N := 8) rfl ?_); refine box_event (by rfl) (N := 8) (by rfl) (cs := #[.int .i64 0, .int .i64 0, .int .i64 0, .int .i64 0, .int .i64 0, .int .i64 0]) (t := 97) zg ?_; intro gb131 hg w26 hbox hb; have BK131 := zA hbox; have GW131 := zgs hg (zs1 HB GE129); have GE131 := zgs hg (zs1 HB GE129); have NB129_131 := zne hg BK129; have NB131_129 := znf hg BK129; replace BK129 := zb BK129 hb; replace HB := zE (zs1 HB GE129) hb; clear hb hbox hg; have hnb27 := NB131_129.out; have hnc27 := NB129_131.out; obtain ⟨hcz28_0, hcz28_1, hcz28_2, hcz28_3, hcz28_4, hcz28_5⟩ := zd6 BK131; obtain ⟨hfz28_0, hfz28_1, hfz28_2, hfz28_3, hfz28_4, hfz28_5⟩ := zn6 BK131; obtain ⟨hcz29_0, hcz29_1, hcz29_2, hcz29_3, hcz29_4, hcz29_5⟩ := zd6 BK129; obtain ⟨hfz29_0, hfz29_1, hfz29_2, hfz29_3, hfz29_4, hfz29_5⟩ := zn6 BK129))
       go_roundg k3
       case measure => have := HK1.out; have := HJ5.out; have := HK3.out; omega
       case rel => exact ⟨(wrap64 (x29_3 + 1)), zi, H', ⟨by have := HK1.out; have := HJ5.out; have := HK3.out; omega⟩, ⟨by (with_reducible repeat (first | refine blk_drewN ?_ _ | refine blk_drew ?_ | refine blk_alloc ?_ _)); refine blk_far ?_ NB129_131.out _; (with_reducible repeat (first | refine blk_drewN ?_ _ | refine blk_drew ?_ | refine blk_alloc ?_ _)); refine blk_far ?_ NB129_131.out _; (with_reducible repeat (first | refine blk_drewN ?_ _ | refine blk_drew ?_ | refine blk_alloc ?_ _)); refine blk_far ?_ NB129_131.out _; (with_reducible repeat (first | refine blk_drewN ?_ _ | refine blk_drew ?_ | refine blk_alloc ?_ _)); refine blk_far ?_ NB129_131.out _; (with_reducible repeat (first | refine blk_drewN ?_ _ | refine blk_drew ?_ | refine blk_alloc ?_ _)); refine blk_far ?_ NB129_131.out _; (with_reducible repeat (first | refine blk_drewN ?_ _ | refine blk_drew ?_ | refine blk_alloc ?_ _)); refine blk_far ?_ NB129_131.out _; (with_reducible repeat (first | refine blk_drewN ?_ _ | refine blk_drew ?_ | refine blk_alloc ?_ _)); exact BK129.out⟩, ⟨zs2 HB GE129 GE131⟩⟩
end Go.Proofs.Ytahfbpmaeijgaaa.QFnExactFlySmaller
