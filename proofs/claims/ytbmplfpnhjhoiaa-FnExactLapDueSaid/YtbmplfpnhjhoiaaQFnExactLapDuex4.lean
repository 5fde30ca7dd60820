/- The walk of what the law FnExactLapDue reaches: laid by a program of this session (ownprint.py). -/
import Derived.Test.YtbmplfpnhjhoiaaQFnExactLapDuex0
import Derived.Test.YtbmplfpnhjhoiaaQFnExactLapDuex3
namespace Go.Proofs.Ytbmplfpnhjhoiaa.QFnExactLapDue
open Go.RowKit Go.Proofs.YtbmplfpnhjhoiaaW.PrintWords Go.Proofs.YtbmplfpnhjhoiaaW.PrintLast Go.Proofs.YtbmplfpnhjhoiaaW.PrintMore Go.Proofs.Ytbmplfpnhjhoiaa.Z
attribute [local go_sem] max2_int min2_int max_two min_two max_three min_three max_four min_four   -- for this text's walks alone
set_option linter.unusedVariables false
set_option linter.unusedSimpArgs false
mutual
def impl_LapDue.l0 : Nat → List (S55) → List (S41) → Int → Int → Option (ByteArray)
 | 0, _, _, _, _ => none
 | k + 1, x0, x1, x2, x7 => if x7 ≥ 0 then (if 0 ≤ x7 then (if x7 < (x1.length : Int) then (if ((rd_T41 x1 x7).f4) > x2 then (impl_LapDue.l0 k x0 x1 x2 (wrap64 (x7 - 1))) else (impl_LapDue.l1 k x0 x1 x2 x7 (wrap64 ((x0.length : Int) - 1)))) else (none)) else (none)) else (some (⟨#[]⟩ : ByteArray))
def impl_LapDue.l1 : Nat → List (S55) → List (S41) → Int → Int → Int → Option (ByteArray)
 | 0, _, _, _, _, _ => none
 | k + 1, x0, x1, x2, x7, x8 => if x8 ≥ 0 then (if 0 ≤ x8 then (if x8 < (x0.length : Int) then (if 0 ≤ x7 then (if x7 < (x1.length : Int) then ((impl_HandZone_over.f ((rd_T55 x0 x8).f0) ((rd_T55 x0 x8).f1) ((rd_T55 x0 x8).f2) ((rd_T55 x0 x8).f3) ((rd_T55 x0 x8).f4) ((rd_T41 x1 x7).f0) ((rd_T41 x1 x7).f1)).bind fun t147 => (if t147 = true then (some ((rd_T55 x0 x8).f0)) else (impl_LapDue.l1 k x0 x1 x2 x7 (wrap64 (x8 - 1))))) else (none)) else (none)) else (none)) else (none)) else (impl_LapDue.l0 k x0 x1 x2 (wrap64 (x7 - 1)))
end
def impl_LapDue.f (k : Nat) (l0 : List (S55)) (l1 : List (S41)) (a2 : Int) : Option (ByteArray) := impl_LapDue.l0 k l0 l1 a2 (wrap64 ((l1.length : Int) - 1))
def impl_LapDue.T8 : Bool × List (List Nat × List Nat) := (true, [([], []), ([], []), ([0, 1], [0, 1]), ([2], [2]), ([], []), ([], []), ([4, 5], [4, 5]), ([6], [6]), ([7], [7]), ([], []), ([], []), ([9, 10], [9, 10]), ([11], [11]), ([12], [12]), ([3, 8, 13], [3, 8, 13])])
def impl_LapDue.B8 : List Nat := [0, 0, 3, 7, 0, 0, 48, 112, 240, 0, 0, 1536, 3584, 7680, 16383]
theorem impl_LapDue.tab8 : rtab .any (opsOf Try.f20 8) = impl_LapDue.T8 := by kernel_rfl
theorem impl_LapDue.bits8 : waitsOk impl_LapDue.T8.2 impl_LapDue.B8 = true := by kernel_rfl
set_option maxHeartbeats 8000000 in
set_option maxRecDepth 100000 in
theorem impl_LapDue.calls (k : Nat) (A0 : Option Addr) (c0 : Nat) (l0 : List (S55)) (A1 : Option Addr) (c1 : Nat) (l1 : List (S41)) (a2 : Int) (r : ByteArray) (w : World) (hr0 : Kd.C k55 w A0 l0.length l0) (hc0 : l0.length ≤ c0) (hr1 : Kd.C k41 w A1 l1.length l1) (hc1 : l1.length ≤ c1) (h : impl_LapDue.f k l0 l1 a2 = some r) :
 Calls Try.prog 20 #[.slice A0 l0.length c0, .slice A1 l1.length c1, .int .i64 a2] w fun e w' => e = .returned (.string r) ∧ Below w.heap.size w w' := by
 have hu55 := Try.underlying55
 have HR0 := Aside0.mk hr0
 have HC0 := Aside0.mk hc0
 clear hr0 hc0
 have HR1 := Aside0.mk hr1
 have HC1 := Aside0.mk hc1
 clear hr1 hc1
 have HB := Aside0.mk (Below.refl w.heap.size w)
 have H : (impl_LapDue.l0 k l0 l1 a2 (wrap64 ((l1.length : Int) - 1))) = some r := h
 clear h
 have H' := Aside0.mk H
 clear H
 go_enter Try.func20, Try.ntmps20
 go_wp2
 go_loopg [7] k (fun kq v7 w' => ∃ (x7_1 : Int), v7 = .int .i64 x7_1 ∧ Aside0 (impl_LapDue.l0 kq l0 l1 a2 x7_1 = some r) ∧ Aside0 (kq ≤ k) ∧ Aside0 (Below w.heap.size w w'))
 case atStart => exact ⟨(wrap64 ((l1.length : Int) - 1)), zi, H', ⟨Nat.le_refl _⟩, ⟨zs0 HB⟩⟩
 case round =>
  clear H'
  try clear c1
  try clear c2
  try clear p2
  obtain ⟨x7_1, rfl, HA, HK1, HB⟩ := hrel
  cases gk with
  | zero => exact absurd HA.out (by simp [impl_LapDue.l0])
  | succ k1 =>
   have H := HA.out
   clear HA
   simp only [impl_LapDue.l0] at H
   by_cases c4 : x7_1 ≥ 0
   rotate_left
   ·rw [if_neg c4] at H
    have c4b0 : decide (0 ≤ x7_1) = false := decide_eq_false c4
    clear c4
    obtain rfl := Option.some.inj H
    go_wp2
    go_ret
    exact ⟨ze, zs0 HB⟩
   rw [if_pos c4] at H
   have c4b0 : decide (0 ≤ x7_1) = true := decide_eq_true c4
   clear c4
   by_cases c5 : 0 ≤ x7_1
   rotate_left
   ·rw [if_neg c5] at H
    exact absurd H (by simp)
   rw [if_pos c5] at H
   have c5b0 : decide (0 ≤ x7_1) = true := decide_eq_true c5
   clear c5
   by_cases c6 : x7_1 < (l1.length : Int)
   rotate_left
   ·rw [if_neg c6] at H
    exact absurd H (by simp)
   rw [if_pos c6] at H
   have c6b0 : decide (x7_1 < (l1.length : Int)) = true := decide_eq_true c6
   clear c6
   by_cases c7 : ((rd_T41 l1 x7_1).f4) > a2
   ·rw [if_pos c7] at H
    have c7b0 : decide (a2 < ((rd_T41 l1 x7_1).f4)) = true := decide_eq_true c7
    clear c7
    have H' := Aside0.mk H
    clear H
    have p143 : 0 ≤ (x7_1 : Int) := za
    have q143 : x7_1 < (l1.length : Int) := za
    obtain ⟨ad143, e143, hx143_0, hx143_1, hx143_2, hx143_3, hx143_4, hx143_5⟩ := at_T41 HR1.out x7_1 p143 q143
    cases e143
    replace hx143_0 := zx HB hx143_0
    replace hx143_1 := zx HB hx143_1
    replace hx143_2 := zx HB hx143_2
    replace hx143_3 := zx HB hx143_3
    replace hx143_4 := zx HB hx143_4
    replace hx143_5 := zx HB hx143_5
    replace p143 := eq_true p143
    replace q143 := eq_true q143
    go_wp2
    go_roundg k1
    case measure => have := HK1.out; omega
    case rel => exact ⟨(wrap64 (x7_1 - 1)), zi, H', ⟨by have := HK1.out; omega⟩, ⟨zs0 HB⟩⟩
   rw [if_neg c7] at H
   have c7b0 : decide (a2 < ((rd_T41 l1 x7_1).f4)) = false := decide_eq_false c7
   clear c7
   have H' := Aside0.mk H
   clear H
   have p143 : 0 ≤ (x7_1 : Int) := za
   have q143 : x7_1 < (l1.length : Int) := za
   obtain ⟨ad143, e143, hx143_0, hx143_1, hx143_2, hx143_3, hx143_4, hx143_5⟩ := at_T41 HR1.out x7_1 p143 q143
   cases e143
   replace hx143_0 := zx HB hx143_0
   replace hx143_1 := zx HB hx143_1
   replace hx143_2 := zx HB hx143_2
   replace hx143_3 := zx HB hx143_3
   replace hx143_4 := zx HB hx143_4
   replace hx143_5 := zx HB hx143_5
   replace p143 := eq_true p143
   replace q143 := eq_true q143
   go_wp2
   go_loopg [8] k1 (fun kq v8 w' => ∃ (x8_2 : Int), v8 = .int .i64 x8_2 ∧ Aside0 (impl_LapDue.l1 kq l0 l1 a2 x7_1 x8_2 = some r) ∧ Aside0 (kq ≤ k1) ∧ Aside0 (Below w.heap.size w w'))
   case atStart => exact ⟨(wrap64 ((l0.length : Int) - 1)), zi, H', ⟨Nat.le_refl _⟩, ⟨zs0 HB⟩⟩
   case round =>
    clear H'
    try clear c1
    try clear p1
    try clear q1
    try clear hx1
    try clear c2
    try clear p2
    try clear c4
    try clear c4b0
    try clear c5
    try clear c5b0
    try clear c6
    try clear c6b0
    try clear p6
    try clear c7
    try clear c7b0
    try clear hx143_0
    try clear hx143_1
    try clear hx143_2
    try clear hx143_3
    try clear hx143_4
    try clear hx143_5
    try clear p143
    try clear p2
    try clear q143
    obtain ⟨x8_2, rfl, HA, HK2, HB⟩ := hrel
    cases gk with
    | zero => exact absurd HA.out (by simp [impl_LapDue.l1])
    | succ k2 =>
     have H := HA.out
     clear HA
     simp only [impl_LapDue.l1] at H
     by_cases c8 : x8_2 ≥ 0
     rotate_left
     ·rw [if_neg c8] at H
      have c8b0 : decide (0 ≤ x8_2) = false := decide_eq_false c8
      clear c8
      have H' := Aside0.mk H
      clear H
      go_wp2
      go_roundg k2
      case measure => have := HK1.out; have := HK2.out; omega
      case rel => exact ⟨(wrap64 (x7_1 - 1)), zi, H', ⟨by have := HK1.out; have := HK2.out; omega⟩, ⟨zs0 HB⟩⟩
     rw [if_pos c8] at H
     have c8b0 : decide (0 ≤ x8_2) = true := decide_eq_true c8
     clear c8
     by_cases c9 : 0 ≤ x8_2
     rotate_left
     ·rw [if_neg c9] at H
      exact absurd H (by simp)
     rw [if_pos c9] at H
     have c9b0 : decide (0 ≤ x8_2) = true := decide_eq_true c9
     clear c9
     by_cases c10 : x8_2 < (l0.length : Int)
     rotate_left
     ·rw [if_neg c10] at H
      exact absurd H (by simp)
     rw [if_pos c10] at H
     have c10b0 : decide (x8_2 < (l0.length : Int)) = true := decide_eq_true c10
     clear c10
     by_cases c11 : 0 ≤ x7_1
     rotate_left
     ·rw [if_neg c11] at H
      exact absurd H (by simp)
     rw [if_pos c11] at H
     have c11b0 : decide (0 ≤ x7_1) = true := decide_eq_true c11
     clear c11
     by_cases c12 : x7_1 < (l1.length : Int)
     rotate_left
     ·rw [if_neg c12] at H
      exact absurd H (by simp)
     rw [if_pos c12] at H
     have c12b0 : decide (x7_1 < (l1.length : Int)) = true := decide_eq_true c12
     clear c12
     replace H := Option.bind_eq_some_iff.mp H
     obtain ⟨t147, A130, H⟩ := H
     replace H : (if t147 = true then (some ((rd_T55 l0 x8_2).f0)) else (impl_LapDue.l1 k2 l0 l1 a2 x7_1 (wrap64 (x8_2 - 1)))) = some r := H
     have A13 := Aside0.mk A130
     clear A130
     by_cases c14 : t147 = true
     rotate_left
     ·replace c14 := Bool.eq_false_iff.mpr c14
      subst c14
      have H1 : (impl_LapDue.l1 k2 l0 l1 a2 x7_1 (wrap64 (x8_2 - 1))) = some r := by rw [if_neg (show ¬ (false = true) by decide)] at H; exact H
      clear H
      have H := H1
      clear H1
      have H' := Aside0.mk H
      clear H
      try go_wp2
      have n0_ := Aside0.mk (below_drew1 HB.out)
      clear HB
      revert n0_
      intro HB
      have p144 : 0 ≤ (x8_2 : Int) := za
      have q144 : x8_2 < (l0.length : Int) := za
      obtain ⟨ad144, e144, hx144_0, hx144_1, hx144_2, hx144_3, hx144_4⟩ := at_T55 HR0.out x8_2 p144 q144
      have hw144_4 := hx144_4
      have hw144_3 := hx144_3
      have hw144_2 := hx144_2
      have hw144_1 := hx144_1
      have hw144_0 := hx144_0
      cases e144
      replace hx144_0 := zx HB hx144_0
      replace hx144_1 := zx HB hx144_1
      replace hx144_2 := zx HB hx144_2
      replace hx144_3 := zx HB hx144_3
      replace hx144_4 := zx HB hx144_4
      replace p144 := eq_true p144
      replace q144 := eq_true q144
      have p145 : 0 ≤ (x7_1 : Int) := za
      have q145 : x7_1 < (l1.length : Int) := za
      obtain ⟨ad145, e145, hx145_0, hx145_1, hx145_2, hx145_3, hx145_4, hx145_5⟩ := at_T41 HR1.out x7_1 p145 q145
      have hw145_5 := hx145_5
      have hw145_4 := hx145_4
      have hw145_3 := hx145_3
      have hw145_2 := hx145_2
      have hw145_1 := hx145_1
      have hw145_0 := hx145_0
      obtain rfl : ad143 = ad145 := (by injection e145)
      replace hx145_0 := zx HB hx145_0
      replace hx145_1 := zx HB hx145_1
      replace hx145_2 := zx HB hx145_2
      replace hx145_3 := zx HB hx145_3
      replace hx145_4 := zx HB hx145_4
      replace hx145_5 := zx HB hx145_5
      replace p145 := eq_true p145
      replace q145 := eq_true q145
      have p146 : 0 ≤ (x7_1 : Int) := za
      have q146 : x7_1 < (l1.length : Int) := za
      obtain ⟨ad146, e146, hx146_0, hx146_1, hx146_2, hx146_3, hx146_4, hx146_5⟩ := at_T41 HR1.out x7_1 p146 q146
      have hw146_5 := hx146_5
      have hw146_4 := hx146_4
      have hw146_3 := hx146_3
      have hw146_2 := hx146_2
      have hw146_1 := hx146_1
      have hw146_0 := hx146_0
      obtain rfl : ad143 = ad146 := (by injection e146)
      replace hx146_0 := zx HB hx146_0
      replace hx146_1 := zx HB hx146_1
      replace hx146_2 := zx HB hx146_2
      replace hx146_3 := zx HB hx146_3
      replace hx146_4 := zx HB hx146_4
      replace hx146_5 := zx HB hx146_5
      replace p146 := eq_true p146
      replace q146 := eq_true q146
      refine start_ (n := 15) (S := fun w' => w'.cell? (ad144.add ((x8_2).toNat * 5)) = some (.string ((rd_T55 l0 x8_2).f0)) ∧ w'.cell? ⟨(ad144.add ((x8_2).toNat * 5)).block, (ad144.add ((x8_2).toNat * 5)).off + 1, none⟩ = some (.int .i64 ((rd_T55 l0 x8_2).f1)) ∧ w'.cell? ⟨(ad144.add ((x8_2).toNat * 5)).block, (ad144.add ((x8_2).toNat * 5)).off + 2, none⟩ = some (.int .i64 ((rd_T55 l0 x8_2).f2)) ∧ w'.cell? ⟨(ad144.add ((x8_2).toNat * 5)).block, (ad144.add ((x8_2).toNat * 5)).off + 3, none⟩ = some (.int .i64 ((rd_T55 l0 x8_2).f3)) ∧ w'.cell? ⟨(ad144.add ((x8_2).toNat * 5)).block, (ad144.add ((x8_2).toNat * 5)).off + 4, none⟩ = some (.int .i64 ((rd_T55 l0 x8_2).f4)) ∧ w'.cell? (ad143.add ((x7_1).toNat * 6)) = some (.int .i64 ((rd_T41 l1 x7_1).f0)) ∧ w'.cell? ⟨(ad143.add ((x7_1).toNat * 6)).block, (ad143.add ((x7_1).toNat * 6)).off + 1, none⟩ = some (.int .i64 ((rd_T41 l1 x7_1).f1)) ∧ w'.cell? ⟨(ad143.add ((x7_1).toNat * 6)).block, (ad143.add ((x7_1).toNat * 6)).off + 2, none⟩ = some (.int .i64 ((rd_T41 l1 x7_1).f2)) ∧ w'.cell? ⟨(ad143.add ((x7_1).toNat * 6)).block, (ad143.add ((x7_1).toNat * 6)).off + 3, none⟩ = some (.int .i64 ((rd_T41 l1 x7_1).f3)) ∧ w'.cell? ⟨(ad143.add ((x7_1).toNat * 6)).block, (ad143.add ((x7_1).toNat * 6)).off + 4, none⟩ = some (.int .i64 ((rd_T41 l1 x7_1).f4)) ∧ w'.cell? ⟨(ad143.add ((x7_1).toNat * 6)).block, (ad143.add ((x7_1).toNat * 6)).off + 5, none⟩ = some (.int .i64 ((rd_T41 l1 x7_1).f5)) ∧ w'.cell? (ad143.add ((x7_1).toNat * 6)) = some (.int .i64 ((rd_T41 l1 x7_1).f0)) ∧ w'.cell? ⟨(ad143.add ((x7_1).toNat * 6)).block, (ad143.add ((x7_1).toNat * 6)).off + 1, none⟩ = some (.int .i64 ((rd_T41 l1 x7_1).f1)) ∧ w'.cell? ⟨(ad143.add ((x7_1).toNat * 6)).block, (ad143.add ((x7_1).toNat * 6)).off + 2, none⟩ = some (.int .i64 ((rd_T41 l1 x7_1).f2)) ∧ w'.cell? ⟨(ad143.add ((x7_1).toNat * 6)).block, (ad143.add ((x7_1).toNat * 6)).off + 3, none⟩ = some (.int .i64 ((rd_T41 l1 x7_1).f3)) ∧ w'.cell? ⟨(ad143.add ((x7_1).toNat * 6)).block, (ad143.add ((x7_1).toNat * 6)).off + 4, none⟩ = some (.int .i64 ((rd_T41 l1 x7_1).f4)) ∧ w'.cell? ⟨(ad143.add ((x7_1).toNat * 6)).block, (ad143.add ((x7_1).toNat * 6)).off + 5, none⟩ = some (.int .i64 ((rd_T41 l1 x7_1).f5))) (ds := []) #[false, false, false, false, false, false, false, false, false, false, false, false, false, false, false] (by kernel_rfl) rfl rfl ⟨(zx HB hw144_0), (zx HB hw144_1), (zx HB hw144_2), (zx HB hw144_3), (zx HB hw144_4), (zx HB hw145_0), (zx HB hw145_1), (zx HB hw145_2), (zx HB hw145_3), (zx HB hw145_4), (zx HB hw145_5), (zx HB hw146_0), (zx HB hw146_1), (zx HB hw146_2), (zx HB hw146_3), (zx HB hw146_4), (zx HB hw146_5)⟩ (fun hHeld => ?_); refine with_tabW impl_LapDue.tab8 impl_LapDue.bits8 (fun HT_ HW_ => ?_)
      generalize wr.drew = w17 at HB hx144_0 hx144_1 hx144_2 hx144_3 hx144_4 hx145_0 hx145_1 hx145_2 hx145_3 hx145_4 hx145_5 hx146_0 hx146_1 hx146_2 hx146_3 hx146_4 hx146_5 hHeld ⊢
      refine pure_ (i := 0) (N := some 30) (v := ?_) (a' := ?_) #[true, false, false, false, false, false, false, false, false, false, false, false, false, false, false] rfl rfl (any_of HT_.out (by kernel_rfl)) (fun _ _ _ h => h) (Or.inl ⟨by rfl, ?_⟩) ?_ ?_; rotate_left; exact zy; rotate_left; exact zput
      refine pure_ (i := 1) (N := some 31) (v := ?_) (a' := ?_) #[true, true, false, false, false, false, false, false, false, false, false, false, false, false, false] rfl rfl (any_of HT_.out (by kernel_rfl)) (fun _ _ _ h => h) (Or.inl ⟨by rfl, ?_⟩) ?_ ?_; rotate_left; exact zy; rotate_left; exact zput
      refine pure_ (i := 2) (N := some 32) (v := ?_) (a' := ?_) #[true, true, true, false, false, false, false, false, false, false, false, false, false, false, false] rfl rfl (any_of HT_.out (by kernel_rfl)) (fun _ _ _ h => h) (Or.inl ⟨by rfl, ?_⟩) ?_ ?_; rotate_left; exact zy; rotate_left; exact zput
      refine pure_ (i := 4) (N := some 34) (v := ?_) (a' := ?_) #[true, true, true, false, true, false, false, false, false, false, false, false, false, false, false] rfl rfl (any_of HT_.out (by kernel_rfl)) (fun _ _ _ h => h) (Or.inl ⟨by rfl, ?_⟩) ?_ ?_; rotate_left; exact zy; rotate_left; exact zput
      refine pure_ (i := 5) (N := some 35) (v := ?_) (a' := ?_) #[true, true, true, false, true, true, false, false, false, false, false, false, false, false, false] rfl rfl (any_of HT_.out (by kernel_rfl)) (fun _ _ _ h => h) (Or.inl ⟨by rfl, ?_⟩) ?_ ?_; rotate_left; exact zy; rotate_left; exact zput
      refine pure_ (i := 6) (N := some 36) (v := ?_) (a' := ?_) #[true, true, true, false, true, true, true, false, false, false, false, false, false, false, false] rfl rfl (any_of HT_.out (by kernel_rfl)) (fun _ _ _ h => h) (Or.inl ⟨by rfl, ?_⟩) ?_ ?_; rotate_left; exact zy; rotate_left; exact zput
      refine pure_ (i := 7) (N := some 37) (v := ?_) (a' := ?_) #[true, true, true, false, true, true, true, true, false, false, false, false, false, false, false] rfl rfl (any_of HT_.out (by kernel_rfl)) (fun _ _ _ h => h) (Or.inl ⟨by rfl, ?_⟩) ?_ ?_; rotate_left; exact zy; rotate_left; exact zput
      refine pure_ (i := 9) (N := some 39) (v := ?_) (a' := ?_) #[true, true, true, false, true, true, true, true, false, true, false, false, false, false, false] rfl rfl (any_of HT_.out (by kernel_rfl)) (fun _ _ _ h => h) (Or.inl ⟨by rfl, ?_⟩) ?_ ?_; rotate_left; exact zy; rotate_left; exact zput
      refine pure_ (i := 10) (N := some 40) (v := ?_) (a' := ?_) #[true, true, true, false, true, true, true, true, false, true, true, false, false, false, false] rfl rfl (any_of HT_.out (by kernel_rfl)) (fun _ _ _ h => h) (Or.inl ⟨by rfl, ?_⟩) ?_ ?_; rotate_left; exact zy; rotate_left; exact zput
      refine pure_ (i := 11) (N := some 41) (v := ?_) (a' := ?_) #[true, true, true, false, true, true, true, true, false, true, true, true, false, false, false] rfl rfl (any_of HT_.out (by kernel_rfl)) (fun _ _ _ h => h) (Or.inl ⟨by rfl, ?_⟩) ?_ ?_; rotate_left; exact zy; rotate_left; exact zput
      refine pure_ (i := 12) (N := some 42) (v := ?_) (a' := ?_) #[true, true, true, false, true, true, true, true, false, true, true, true, true, false, false] rfl rfl (any_of HT_.out (by kernel_rfl)) (fun _ _ _ h => h) (Or.inl ⟨by rfl, ?_⟩) ?_ ?_; rotate_left; exact zy; rotate_left; exact zput
      refine take_ (i := 3) (N := some 33) (v := ?_) (a' := ?_) #[true, true, true, true, true, true, true, true, false, true, true, true, true, false, false] rfl rfl (take_ofW HT_.out HW_.out (by kernel_rfl)) (fun _ _ _ h => h) (Or.inl ⟨by rfl, ?_⟩) hHeld ?_ ?_; rotate_left; exact zt17; rotate_left; exact zput
      refine take_ (i := 8) (N := some 38) (v := ?_) (a' := ?_) #[true, true, true, true, true, true, true, true, true, true, true, true, true, false, false] rfl rfl (take_ofW HT_.out HW_.out (by kernel_rfl)) (fun _ _ _ h => h) (Or.inl ⟨by rfl, ?_⟩) hHeld ?_ ?_; rotate_left; exact zt17; rotate_left; exact zput
      refine take_ (i := 13) (N := some 43) (v := ?_) (a' := ?_) #[true, true, true, true, true, true, true, true, true, true, true, true, true, true, false] rfl rfl (take_ofW HT_.out HW_.out (by kernel_rfl)) (fun _ _ _ h => h) (Or.inl ⟨by rfl, ?_⟩) hHeld ?_ ?_; rotate_left; exact zt17; rotate_left; exact zput
      refine one_ (i := 14) (N := some 44) #[true, true, true, true, true, true, true, true, true, true, true, true, true, true, true] rfl rfl (one_of HT_.out (by kernel_rfl)) (by decide) (fun K hK => ?_)
      refine goes_ Try.func83 (by kernel_rfl) rfl #[.agg #[.string ((rd_T55 l0 x8_2).f0), .int .i64 ((rd_T55 l0 x8_2).f1), .int .i64 ((rd_T55 l0 x8_2).f2), .int .i64 ((rd_T55 l0 x8_2).f3), .int .i64 ((rd_T55 l0 x8_2).f4)], .int .i64 ((rd_T41 l1 x7_1).f0), .int .i64 ((rd_T41 l1 x7_1).f1)] (by rfl) rfl rfl zl ?_
      with_reducible refine (impl_HandZone_over.calls ((rd_T55 l0 x8_2).f0) ((rd_T55 l0 x8_2).f1) ((rd_T55 l0 x8_2).f2) ((rd_T55 l0 x8_2).f3) ((rd_T55 l0 x8_2).f4) ((rd_T41 l1 x7_1).f0) ((rd_T41 l1 x7_1).f1) false _ A13.out).mono ?_
      rintro e w18 ⟨rfl, hb⟩
      refine ⟨_, rfl, ?_⟩
      have n0_ := Aside0.mk (below_step (zs0 HB) hb)
      clear HB
      revert n0_
      intro HB
      (try clear hb)
      (try clear hb2)
      (try clear hk)
      (try clear hi)
      refine hK.out _ _ ⟨(zx HB hw144_0), (zx HB hw144_1), (zx HB hw144_2), (zx HB hw144_3), (zx HB hw144_4), (zx HB hw145_0), (zx HB hw145_1), (zx HB hw145_2), (zx HB hw145_3), (zx HB hw145_4), (zx HB hw145_5), (zx HB hw146_0), (zx HB hw146_1), (zx HB hw146_2), (zx HB hw146_3), (zx HB hw146_4), (zx HB hw146_5)⟩ (fun hHeld => ?_)
      clear hK K
      refine norm_ (a' := ?_) ?_ ?_
      rotate_left
      ·show Act.put _ (some 44) _ = _
       simp only [Act.put, List.setIfInBounds_toArray, List.set_cons_zero, List.set_cons_succ, i64_w, i32_w]
       rfl
      refine done_ (done_of HT_.out (by kernel_rfl)) ?_
      try go_wp2
      go_roundg k2
      case measure => have := HK1.out; have := HK2.out; omega
      case rel => exact ⟨(wrap64 (x8_2 - 1)), zi, H', ⟨by have := HK1.out; have := HK2.out; omega⟩, ⟨zs0 HB⟩⟩
     subst c14
     have H1 : (some ((rd_T55 l0 x8_2).f0)) = some r := by rw [if_pos rfl] at H; exact H
     clear H
     have H := H1
     clear H1
     obtain rfl := Option.some.inj H
     try go_wp2
     have n0_ := Aside0.mk (below_drew1 HB.out)
     clear HB
     revert n0_
     intro HB
     have p144 : 0 ≤ (x8_2 : Int) := za
     have q144 : x8_2 < (l0.length : Int) := za
     obtain ⟨ad144, e144, hx144_0, hx144_1, hx144_2, hx144_3, hx144_4⟩ := at_T55 HR0.out x8_2 p144 q144
     have hw144_4 := hx144_4
     have hw144_3 := hx144_3
     have hw144_2 := hx144_2
     have hw144_1 := hx144_1
     have hw144_0 := hx144_0
     cases e144
     replace hx144_0 := zx HB hx144_0
     replace hx144_1 := zx HB hx144_1
     replace hx144_2 := zx HB hx144_2
     replace hx144_3 := zx HB hx144_3
     replace hx144_4 := zx HB hx144_4
     replace p144 := eq_true p144
     replace q144 := eq_true q144
     have p145 : 0 ≤ (x7_1 : Int) := za
     have q145 : x7_1 < (l1.length : Int) := za
     obtain ⟨ad145, e145, hx145_0, hx145_1, hx145_2, hx145_3, hx145_4, hx145_5⟩ := at_T41 HR1.out x7_1 p145 q145
     have hw145_5 := hx145_5
     have hw145_4 := hx145_4
     have hw145_3 := hx145_3
     have hw145_2 := hx145_2
     have hw145_1 := hx145_1
     have hw145_0 := hx145_0
     obtain rfl : ad143 = ad145 := (by injection e145)
     replace hx145_0 := zx HB hx145_0
     replace hx145_1 := zx HB hx145_1
     replace hx145_2 := zx HB hx145_2
     replace hx145_3 := zx HB hx145_3
     replace hx145_4 := zx HB hx145_4
     replace hx145_5 := zx HB hx145_5
     replace p145 := eq_true p145
     replace q145 := eq_true q145
     have p146 : 0 ≤ (x7_1 : Int) := za
     have q146 : x7_1 < (l1.length : Int) := za
     obtain ⟨ad146, e146, hx146_0, hx146_1, hx146_2, hx146_3, hx146_4, hx146_5⟩ := at_T41 HR1.out x7_1 p146 q146
     have hw146_5 := hx146_5
     have hw146_4 := hx146_4
     have hw146_3 := hx146_3
     have hw146_2 := hx146_2
     have hw146_1 := hx146_1
     have hw146_0 := hx146_0
     obtain rfl : ad143 = ad146 := (by injection e146)
     replace hx146_0 := zx HB hx146_0
     replace hx146_1 := zx HB hx146_1
     replace hx146_2 := zx HB hx146_2
     replace hx146_3 := zx HB hx146_3
     replace hx146_4 := zx HB hx146_4
     replace hx146_5 := zx HB hx146_5
     replace p146 := eq_true p146
     replace q146 := eq_true q146
     refine start_ (n := 15) (S := fun w' => w'.cell? (ad144.add ((x8_2).toNat * 5)) = some (.string ((rd_T55 l0 x8_2).f0)) ∧ w'.cell? ⟨(ad144.add ((x8_2).toNat * 5)).block, (ad144.add ((x8_2).toNat * 5)).off + 1, none⟩ = some (.int .i64 ((rd_T55 l0 x8_2).f1)) ∧ w'.cell? ⟨(ad144.add ((x8_2).toNat * 5)).block, (ad144.add ((x8_2).toNat * 5)).off + 2, none⟩ = some (.int .i64 ((rd_T55 l0 x8_2).f2)) ∧ w'.cell? ⟨(ad144.add ((x8_2).toNat * 5)).block, (ad144.add ((x8_2).toNat * 5)).off + 3, none⟩ = some (.int .i64 ((rd_T55 l0 x8_2).f3)) ∧ w'.cell? ⟨(ad144.add ((x8_2).toNat * 5)).block, (ad144.add ((x8_2).toNat * 5)).off + 4, none⟩ = some (.int .i64 ((rd_T55 l0 x8_2).f4)) ∧ w'.cell? (ad143.add ((x7_1).toNat * 6)) = some (.int .i64 ((rd_T41 l1 x7_1).f0)) ∧ w'.cell? ⟨(ad143.add ((x7_1).toNat * 6)).block, (ad143.add ((x7_1).toNat * 6)).off + 1, none⟩ = some (.int .i64 ((rd_T41 l1 x7_1).f1)) ∧ w'.cell? ⟨(ad143.add ((x7_1).toNat * 6)).block, (ad143.add ((x7_1).toNat * 6)).off + 2, none⟩ = some (.int .i64 ((rd_T41 l1 x7_1).f2)) ∧ w'.cell? ⟨(ad143.add ((x7_1).toNat * 6)).block, (ad143.add ((x7_1).toNat * 6)).off + 3, none⟩ = some (.int .i64 ((rd_T41 l1 x7_1).f3)) ∧ w'.cell? ⟨(ad143.add ((x7_1).toNat * 6)).block, (ad143.add ((x7_1).toNat * 6)).off + 4, none⟩ = some (.int .i64 ((rd_T41 l1 x7_1).f4)) ∧ w'.cell? ⟨(ad143.add ((x7_1).toNat * 6)).block, (ad143.add ((x7_1).toNat * 6)).off + 5, none⟩ = some (.int .i64 ((rd_T41 l1 x7_1).f5)) ∧ w'.cell? (ad143.add ((x7_1).toNat * 6)) = some (.int .i64 ((rd_T41 l1 x7_1).f0)) ∧ w'.cell? ⟨(ad143.add ((x7_1).toNat * 6)).block, (ad143.add ((x7_1).toNat * 6)).off + 1, none⟩ = some (.int .i64 ((rd_T41 l1 x7_1).f1)) ∧ w'.cell? ⟨(ad143.add ((x7_1).toNat * 6)).block, (ad143.add ((x7_1).toNat * 6)).off + 2, none⟩ = some (.int .i64 ((rd_T41 l1 x7_1).f2)) ∧ w'.cell? ⟨(ad143.add ((x7_1).toNat * 6)).block, (ad143.add ((x7_1).toNat * 6)).off + 3, none⟩ = some (.int .i64 ((rd_T41 l1 x7_1).f3)) ∧ w'.cell? ⟨(ad143.add ((x7_1).toNat * 6)).block, (ad143.add ((x7_1).toNat * 6)).off + 4, none⟩ = some (.int .i64 ((rd_T41 l1 x7_1).f4)) ∧ w'.cell? ⟨(ad143.add ((x7_1).toNat * 6)).block, (ad143.add ((x7_1).toNat * 6)).off + 5, none⟩ = some (.int .i64 ((rd_T41 l1 x7_1).f5))) (ds := []) #[false, false, false, false, false, false, false, false, false, false, false, false, false, false, false] (by kernel_rfl) rfl rfl ⟨(zx HB hw144_0), (zx HB hw144_1), (zx HB hw144_2), (zx HB hw144_3), (zx HB hw144_4), (zx HB hw145_0), (zx HB hw145_1), (zx HB hw145_2), (zx HB hw145_3), (zx HB hw145_4), (zx HB hw145_5), (zx HB hw146_0), (zx HB hw146_1), (zx HB hw146_2), (zx HB hw146_3), (zx HB hw146_4), (zx HB hw146_5)⟩ (fun hHeld => ?_); refine with_tabW impl_LapDue.tab8 impl_LapDue.bits8 (fun HT_ HW_ => ?_)
     generalize wr.drew = w15 at HB hx144_0 hx144_1 hx144_2 hx144_3 hx144_4 hx145_0 hx145_1 hx145_2 hx145_3 hx145_4 hx145_5 hx146_0 hx146_1 hx146_2 hx146_3 hx146_4 hx146_5 hHeld ⊢
     refine pure_ (i := 0) (N := some 30) (v := ?_) (a' := ?_) #[true, false, false, false, false, false, false, false, false, false, false, false, false, false, false] rfl rfl (any_of HT_.out (by kernel_rfl)) (fun _ _ _ h => h) (Or.inl ⟨by rfl, ?_⟩) ?_ ?_; rotate_left; exact zy; rotate_left; exact zput
     refine pure_ (i := 1) (N := some 31) (v := ?_) (a' := ?_) #[true, true, false, false, false, false, false, false, false, false, false, false, false, false, false] rfl rfl (any_of HT_.out (by kernel_rfl)) (fun _ _ _ h => h) (Or.inl ⟨by rfl, ?_⟩) ?_ ?_; rotate_left; exact zy; rotate_left; exact zput
     refine pure_ (i := 2) (N := some 32) (v := ?_) (a' := ?_) #[true, true, true, false, false, false, false, false, false, false, false, false, false, false, false] rfl rfl (any_of HT_.out (by kernel_rfl)) (fun _ _ _ h => h) (Or.inl ⟨by rfl, ?_⟩) ?_ ?_; rotate_left; exact zy; rotate_left; exact zput
     refine pure_ (i := 4) (N := some 34) (v := ?_) (a' := ?_) #[true, true, true, false, true, false, false, false, false, false, false, false, false, false, false] rfl rfl (any_of HT_.out (by kernel_rfl)) (fun _ _ _ h => h) (Or.inl ⟨by rfl, ?_⟩) ?_ ?_; rotate_left; exact zy; rotate_left; exact zput
     refine pure_ (i := 5) (N := some 35) (v := ?_) (a' := ?_) #[true, true, true, false, true, true, false, false, false, false, false, false, false, false, false] rfl rfl (any_of HT_.out (by kernel_rfl)) (fun _ _ _ h => h) (Or.inl ⟨by rfl, ?_⟩) ?_ ?_; rotate_left; exact zy; rotate_left; exact zput
     refine pure_ (i := 6) (N := some 36) (v := ?_) (a' := ?_) #[true, true, true, false, true, true, true, false, false, false, false, false, false, false, false] rfl rfl (any_of HT_.out (by kernel_rfl)) (fun _ _ _ h => h) (Or.inl ⟨by rfl, ?_⟩) ?_ ?_; rotate_left; exact zy; rotate_left; exact zput
     refine pure_ (i := 7) (N := some 37) (v := ?_) (a' := ?_) #[true, true, true, false, true, true, true, true, false, false, false, false, false, false, false] rfl rfl (any_of HT_.out (by kernel_rfl)) (fun _ _ _ h => h) (Or.inl ⟨by rfl, ?_⟩) ?_ ?_; rotate_left; exact zy; rotate_left; exact zput
     refine pure_ (i := 9) (N := some 39) (v := ?_) (a' := ?_) #[true, true, true, false, true, true, true, true, false, true, false, false, false, false, false] rfl rfl (any_of HT_.out (by kernel_rfl)) (fun _ _ _ h => h) (Or.inl ⟨by rfl, ?_⟩) ?_ ?_; rotate_left; exact zy; rotate_left; exact zput
     refine pure_ (i := 10) (N := some 40) (v := ?_) (a' := ?_) #[true, true, true, false, true, true, true, true, false, true, true, false, false, false, false] rfl rfl (any_of HT_.out (by kernel_rfl)) (fun _ _ _ h => h) (Or.inl ⟨by rfl, ?_⟩) ?_ ?_; rotate_left; exact zy; rotate_left; exact zput
     refine pure_ (i := 11) (N := some 41) (v := ?_) (a' := ?_) #[true, true, true, false, true, true, true, true, false, true, true, true, false, false, false] rfl rfl (any_of HT_.out (by kernel_rfl)) (fun _ _ _ h => h) (Or.inl ⟨by rfl, ?_⟩) ?_ ?_; rotate_left; exact zy; rotate_left; exact zput
     refine pure_ (i := 12) (N := some 42) (v := ?_) (a' := ?_) #[true, true, true, false, true, true, true, true, false, true, true, true, true, false, false] rfl rfl (any_of HT_.out (by kernel_rfl)) (fun _ _ _ h => h) (Or.inl ⟨by rfl, ?_⟩) ?_ ?_; rotate_left; exact zy; rotate_left; exact zput
     refine take_ (i := 3) (N := some 33) (v := ?_) (a' := ?_) #[true, true, true, true, true, true, true, true, false, true, true, true, true, false, false] rfl rfl (take_ofW HT_.out HW_.out (by kernel_rfl)) (fun _ _ _ h => h) (Or.inl ⟨by rfl, ?_⟩) hHeld ?_ ?_; rotate_left; exact zt17; rotate_left; exact zput
     refine take_ (i := 8) (N := some 38) (v := ?_) (a' := ?_) #[true, true, true, true, true, true, true, true, true, true, true, true, true, false, false] rfl rfl (take_ofW HT_.out HW_.out (by kernel_rfl)) (fun _ _ _ h => h) (Or.inl ⟨by rfl, ?_⟩) hHeld ?_ ?_; rotate_left; exact zt17; rotate_left; exact zput
     refine take_ (i := 13) (N := some 43) (v := ?_) (a' := ?_) #[true, true, true, true, true, true, true, true, true, true, true, true, true, true, false] rfl rfl (take_ofW HT_.out HW_.out (by kernel_rfl)) (fun _ _ _ h => h) (Or.inl ⟨by rfl, ?_⟩) hHeld ?_ ?_; rotate_left; exact zt17; rotate_left; exact zput
     refine one_ (i := 14) (N := some 44) #[true, true, true, true, true, true, true, true, true, true, true, true, true, true, true] rfl rfl (one_of HT_.out (by kernel_rfl)) (by decide) (fun K hK => ?_)
     refine goes_ Try.func83 (by kernel_rfl) rfl #[.agg #[.string ((rd_T55 l0 x8_2).f0), .int .i64 ((rd_T55 l0 x8_2).f1), .int .i64 ((rd_T55 l0 x8_2).f2), .int .i64 ((rd_T55 l0 x8_2).f3), .int .i64 ((rd_T55 l0 x8_2).f4)], .int .i64 ((rd_T41 l1 x7_1).f0), .int .i64 ((rd_T41 l1 x7_1).f1)] (by rfl) rfl rfl zl ?_
     with_reducible refine (impl_HandZone_over.calls ((rd_T55 l0 x8_2).f0) ((rd_T55 l0 x8_2).f1) ((rd_T55 l0 x8_2).f2) ((rd_T55 l0 x8_2).f3) ((rd_T55 l0 x8_2).f4) ((rd_T41 l1 x7_1).f0) ((rd_T41 l1 x7_1).f1) true _ A13.out).mono ?_
     rintro e w16 ⟨rfl, hb⟩
     refine ⟨_, rfl, ?_⟩
     have n0_ := Aside0.mk (below_step (zs0 HB) hb)
     clear HB
     revert n0_
     intro HB
     (try clear hb)
     (try clear hb2)
     (try clear hk)
     (try clear hi)
     refine hK.out _ _ ⟨(zx HB hw144_0), (zx HB hw144_1), (zx HB hw144_2), (zx HB hw144_3), (zx HB hw144_4), (zx HB hw145_0), (zx HB hw145_1), (zx HB hw145_2), (zx HB hw145_3), (zx HB hw145_4), (zx HB hw145_5), (zx HB hw146_0), (zx HB hw146_1), (zx HB hw146_2), (zx HB hw146_3), (zx HB hw146_4), (zx HB hw146_5)⟩ (fun hHeld => ?_)
     clear hK K
     refine norm_ (a' := ?_) ?_ ?_
     rotate_left
     ·show Act.put _ (some 44) _ = _
      simp only [Act.put, List.setIfInBounds_toArray, List.set_cons_zero, List.set_cons_succ, i64_w, i32_w]
      rfl
     refine done_ (done_of HT_.out (by kernel_rfl)) ?_
     have p148 : 0 ≤ (x8_2 : Int) := za
     have q148 : x8_2 < (l0.length : Int) := za
     obtain ⟨ad148, e148, hx148_0, hx148_1, hx148_2, hx148_3, hx148_4⟩ := at_T55 HR0.out x8_2 p148 q148
     obtain rfl : ad144 = ad148 := (by injection e148)
     replace hx148_0 := zx HB hx148_0
     replace hx148_1 := zx HB hx148_1
     replace hx148_2 := zx HB hx148_2
     replace hx148_3 := zx HB hx148_3
     replace hx148_4 := zx HB hx148_4
     replace p148 := eq_true p148
     replace q148 := eq_true q148
     try go_wp2
     go_ret
     exact ⟨ze, zs0 HB⟩
end Go.Proofs.Ytbmplfpnhjhoiaa.QFnExactLapDue
