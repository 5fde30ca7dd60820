/- The walk of what the law FnExactLapDue reaches: laid by a program of this session (ownprint.py). -/
import Derived.Test.YtbmplfpnhjhoiaaQFnExactLapDuex0
import Derived.Test.YtbmplfpnhjhoiaaQFnExactLapDuex1
import Derived.Test.YtbmplfpnhjhoiaaQFnExactLapDuex2
import Derived.Test.YtbmplfpnhjhoiaaQFnExactLapDuex3
import Derived.Test.YtbmplfpnhjhoiaaQFnExactLapDuex4
import Derived.Test.YtbmplfpnhjhoiaaQFnExactLapDuex5
namespace Go.Proofs.Ytbmplfpnhjhoiaa.QFnExactLapDue
open Go.RowKit Go.Proofs.YtbmplfpnhjhoiaaW.PrintWords Go.Proofs.YtbmplfpnhjhoiaaW.PrintLast Go.Proofs.YtbmplfpnhjhoiaaW.PrintMore Go.Proofs.Ytbmplfpnhjhoiaa.Z
attribute [local go_sem] max2_int min2_int max_two min_two max_three min_three max_four min_four   -- for this text's walks alone
set_option linter.unusedVariables false
set_option linter.unusedSimpArgs false
def laws_eqHandBoxS.l0 : Nat → List (S41) → List (S41) → Int → Option (Bool)
 | 0, _, _, _ => none
 | k + 1, x0, x1, x5 => if x5 < (x0.length : Int) then (if 0 ≤ x5 then (if x5 < (x1.length : Int) then ((laws_eqHandBox.f ((rd_T41 x0 x5).f0) ((rd_T41 x0 x5).f1) ((rd_T41 x0 x5).f2) ((rd_T41 x0 x5).f3) ((rd_T41 x0 x5).f4) ((rd_T41 x0 x5).f5) ((rd_T41 x1 x5).f0) ((rd_T41 x1 x5).f1) ((rd_T41 x1 x5).f2) ((rd_T41 x1 x5).f3) ((rd_T41 x1 x5).f4) ((rd_T41 x1 x5).f5)).bind fun t158 => (if t158 = true then (laws_eqHandBoxS.l0 k x0 x1 (wrap64 (x5 + 1))) else (some false))) else (none)) else (none)) else (some true)
def laws_eqHandBoxS.f (k : Nat) (l0 : List (S41)) (l1 : List (S41)) : Option (Bool) := if (l0.length : Int) = (l1.length : Int) then (laws_eqHandBoxS.l0 k l0 l1 0) else (some false)
def laws_eqHandBoxS.T6 : Bool × List (List Nat × List Nat) := (true, [([], []), ([], []), ([0, 1], [0, 1]), ([2], [2]), ([], []), ([], []), ([4, 5], [4, 5]), ([6], [6]), ([3, 7], [3, 7]), ([8], [8])])
def laws_eqHandBoxS.B6 : List Nat := [0, 0, 3, 7, 0, 0, 48, 112, 255, 511]
theorem laws_eqHandBoxS.tab6 : rtab .any (opsOf Try.f22 6) = laws_eqHandBoxS.T6 := by kernel_rfl
theorem laws_eqHandBoxS.bits6 : waitsOk laws_eqHandBoxS.T6.2 laws_eqHandBoxS.B6 = true := by kernel_rfl
set_option maxHeartbeats 8000000 in
set_option maxRecDepth 100000 in
theorem laws_eqHandBoxS.calls (k : Nat) (A0 : Option Addr) (c0 : Nat) (l0 : List (S41)) (A1 : Option Addr) (c1 : Nat) (l1 : List (S41)) (r : Bool) (w : World) (hr0 : Kd.C k41 w A0 l0.length l0) (hc0 : l0.length ≤ c0) (hr1 : Kd.C k41 w A1 l1.length l1) (hc1 : l1.length ≤ c1) (h : laws_eqHandBoxS.f k l0 l1 = some r) :
 Calls Try.prog 22 #[.slice A0 l0.length c0, .slice A1 l1.length c1] w fun e w' => e = .returned (.bool r) ∧ Below w.heap.size w w' := by
 have hu41 := Try.underlying41
 have HR0 := Aside0.mk hr0
 have HC0 := Aside0.mk hc0
 clear hr0 hc0
 have HR1 := Aside0.mk hr1
 have HC1 := Aside0.mk hc1
 clear hr1 hc1
 have HB := Aside0.mk (Below.refl w.heap.size w)
 have H : (if (l0.length : Int) = (l1.length : Int) then (laws_eqHandBoxS.l0 k l0 l1 0) else (some false)) = some r := h
 clear h
 by_cases c3 : (l0.length : Int) = (l1.length : Int)
 rotate_left
 ·rw [if_neg c3] at H
  have c3b0 : ((l0.length : Int) == (l1.length : Int)) = false := beq_eq_false_iff_ne.mpr c3
  have c3b1 : ((l0.length : Int) != (l1.length : Int)) = true := bne_iff_ne.mpr c3
  have c3b2 : (l0.length == l1.length) = false := by first | simpa using c3 | (simp at c3 ⊢; omega)
  obtain rfl := Option.some.inj H
  go_enter Try.func22, Try.ntmps22
  go_wp2
  go_ret
  exact ⟨ze, zs0 HB⟩
 rw [if_pos c3] at H
 have c3b0 : ((l0.length : Int) == (l1.length : Int)) = true := beq_iff_eq.mpr c3
 have c3b1 : ((l0.length : Int) != (l1.length : Int)) = false := bne_eq_false_iff_eq.mpr c3
 have c3b2 : (l0.length == l1.length) = true := by first | simpa using c3 | (simp at c3 ⊢; omega)
 clear c3
 have H' := Aside0.mk H
 clear H
 go_enter Try.func22, Try.ntmps22
 go_wp2
 go_loopg [5] k (fun kq v5 w' => ∃ (x5_1 : Int), v5 = .int .i64 x5_1 ∧ Aside0 (laws_eqHandBoxS.l0 kq l0 l1 x5_1 = some r) ∧ Aside0 (kq ≤ k) ∧ Aside0 (Below w.heap.size w w'))
 case atStart => exact ⟨(0), zi, H', ⟨Nat.le_refl _⟩, ⟨zs0 HB⟩⟩
 case round =>
  clear H'
  try clear c1
  try clear c2
  try clear p2
  try clear c3
  try clear c3b0
  try clear c3b1
  try clear c3b2
  obtain ⟨x5_1, rfl, HA, HK1, HB⟩ := hrel
  cases gk with
  | zero => exact absurd HA.out (by simp [laws_eqHandBoxS.l0])
  | succ k1 =>
   have H := HA.out
   clear HA
   simp only [laws_eqHandBoxS.l0] at H
   by_cases c4 : x5_1 < (l0.length : Int)
   rotate_left
   ·rw [if_neg c4] at H
    have c4b0 : decide (x5_1 < (l0.length : Int)) = false := decide_eq_false c4
    clear c4
    obtain rfl := Option.some.inj H
    go_wp2
    go_ret
    exact ⟨ze, zs0 HB⟩
   rw [if_pos c4] at H
   have c4b0 : decide (x5_1 < (l0.length : Int)) = true := decide_eq_true c4
   clear c4
   by_cases c5 : 0 ≤ x5_1
   rotate_left
   ·rw [if_neg c5] at H
    exact absurd H (by simp)
   rw [if_pos c5] at H
   have c5b0 : decide (0 ≤ x5_1) = true := decide_eq_true c5
   clear c5
   by_cases c6 : x5_1 < (l1.length : Int)
   rotate_left
   ·rw [if_neg c6] at H
    exact absurd H (by simp)
   rw [if_pos c6] at H
   have c6b0 : decide (x5_1 < (l1.length : Int)) = true := decide_eq_true c6
   clear c6
   replace H := Option.bind_eq_some_iff.mp H
   obtain ⟨t158, A70, H⟩ := H
   replace H : (if t158 = true then (laws_eqHandBoxS.l0 k1 l0 l1 (wrap64 (x5_1 + 1))) else (some false)) = some r := H
   have A7 := Aside0.mk A70
   clear A70
   by_cases c8 : t158 = true
   rotate_left
   ·replace c8 := Bool.eq_false_iff.mpr c8
    subst c8
    have H1 : (some false) = some r := by rw [if_neg (show ¬ (false = true) by decide)] at H; exact H
    clear H
    have H := H1
    clear H1
    obtain rfl := Option.some.inj H
    try go_wp2
    have n0_ := Aside0.mk (below_drew1 HB.out)
    clear HB
    revert n0_
    intro HB
    have p156 : 0 ≤ (x5_1 : Int) := za
    have q156 : x5_1 < (l0.length : Int) := za
    obtain ⟨ad156, e156, hx156_0, hx156_1, hx156_2, hx156_3, hx156_4, hx156_5⟩ := at_T41 HR0.out x5_1 p156 q156
    have hw156_5 := hx156_5
    have hw156_4 := hx156_4
    have hw156_3 := hx156_3
    have hw156_2 := hx156_2
    have hw156_1 := hx156_1
    have hw156_0 := hx156_0
    cases e156
    replace hx156_0 := zx HB hx156_0
    replace hx156_1 := zx HB hx156_1
    replace hx156_2 := zx HB hx156_2
    replace hx156_3 := zx HB hx156_3
    replace hx156_4 := zx HB hx156_4
    replace hx156_5 := zx HB hx156_5
    replace p156 := eq_true p156
    replace q156 := eq_true q156
    have p157 : 0 ≤ (x5_1 : Int) := za
    have q157 : x5_1 < (l1.length : Int) := za
    obtain ⟨ad157, e157, hx157_0, hx157_1, hx157_2, hx157_3, hx157_4, hx157_5⟩ := at_T41 HR1.out x5_1 p157 q157
    have hw157_5 := hx157_5
    have hw157_4 := hx157_4
    have hw157_3 := hx157_3
    have hw157_2 := hx157_2
    have hw157_1 := hx157_1
    have hw157_0 := hx157_0
    cases e157
    replace hx157_0 := zx HB hx157_0
    replace hx157_1 := zx HB hx157_1
    replace hx157_2 := zx HB hx157_2
    replace hx157_3 := zx HB hx157_3
    replace hx157_4 := zx HB hx157_4
    replace hx157_5 := zx HB hx157_5
    replace p157 := eq_true p157
    replace q157 := eq_true q157
    refine start_ (n := 10) (S := fun w' => w'.cell? (ad156.add ((x5_1).toNat * 6)) = some (.int .i64 ((rd_T41 l0 x5_1).f0)) ∧ w'.cell? ⟨(ad156.add ((x5_1).toNat * 6)).block, (ad156.add ((x5_1).toNat * 6)).off + 1, none⟩ = some (.int .i64 ((rd_T41 l0 x5_1).f1)) ∧ w'.cell? ⟨(ad156.add ((x5_1).toNat * 6)).block, (ad156.add ((x5_1).toNat * 6)).off + 2, none⟩ = some (.int .i64 ((rd_T41 l0 x5_1).f2)) ∧ w'.cell? ⟨(ad156.add ((x5_1).toNat * 6)).block, (ad156.add ((x5_1).toNat * 6)).off + 3, none⟩ = some (.int .i64 ((rd_T41 l0 x5_1).f3)) ∧ w'.cell? ⟨(ad156.add ((x5_1).toNat * 6)).block, (ad156.add ((x5_1).toNat * 6)).off + 4, none⟩ = some (.int .i64 ((rd_T41 l0 x5_1).f4)) ∧ w'.cell? ⟨(ad156.add ((x5_1).toNat * 6)).block, (ad156.add ((x5_1).toNat * 6)).off + 5, none⟩ = some (.int .i64 ((rd_T41 l0 x5_1).f5)) ∧ w'.cell? (ad157.add ((x5_1).toNat * 6)) = some (.int .i64 ((rd_T41 l1 x5_1).f0)) ∧ w'.cell? ⟨(ad157.add ((x5_1).toNat * 6)).block, (ad157.add ((x5_1).toNat * 6)).off + 1, none⟩ = some (.int .i64 ((rd_T41 l1 x5_1).f1)) ∧ w'.cell? ⟨(ad157.add ((x5_1).toNat * 6)).block, (ad157.add ((x5_1).toNat * 6)).off + 2, none⟩ = some (.int .i64 ((rd_T41 l1 x5_1).f2)) ∧ w'.cell? ⟨(ad157.add ((x5_1).toNat * 6)).block, (ad157.add ((x5_1).toNat * 6)).off + 3, none⟩ = some (.int .i64 ((rd_T41 l1 x5_1).f3)) ∧ w'.cell? ⟨(ad157.add ((x5_1).toNat * 6)).block, (ad157.add ((x5_1).toNat * 6)).off + 4, none⟩ = some (.int .i64 ((rd_T41 l1 x5_1).f4)) ∧ w'.cell? ⟨(ad157.add ((x5_1).toNat * 6)).block, (ad157.add ((x5_1).toNat * 6)).off + 5, none⟩ = some (.int .i64 ((rd_T41 l1 x5_1).f5))) (ds := []) #[false, false, false, false, false, false, false, false, false, false] (by kernel_rfl) rfl rfl ⟨(zx HB hw156_0), (zx HB hw156_1), (zx HB hw156_2), (zx HB hw156_3), (zx HB hw156_4), (zx HB hw156_5), (zx HB hw157_0), (zx HB hw157_1), (zx HB hw157_2), (zx HB hw157_3), (zx HB hw157_4), (zx HB hw157_5)⟩ (fun hHeld => ?_); refine with_tabW laws_eqHandBoxS.tab6 laws_eqHandBoxS.bits6 (fun HT_ HW_ => ?_)
    generalize wr.drew = w11 at HB hx156_0 hx156_1 hx156_2 hx156_3 hx156_4 hx156_5 hx157_0 hx157_1 hx157_2 hx157_3 hx157_4 hx157_5 hHeld ⊢
    refine pure_ (i := 0) (N := some 17) (v := ?_) (a' := ?_) #[true, false, false, false, false, false, false, false, false, false] rfl rfl (any_of HT_.out (by kernel_rfl)) (fun _ _ _ h => h) (Or.inl ⟨by rfl, ?_⟩) ?_ ?_; rotate_left; exact zy; rotate_left; exact zput
    refine pure_ (i := 1) (N := some 18) (v := ?_) (a' := ?_) #[true, true, false, false, false, false, false, false, false, false] rfl rfl (any_of HT_.out (by kernel_rfl)) (fun _ _ _ h => h) (Or.inl ⟨by rfl, ?_⟩) ?_ ?_; rotate_left; exact zy; rotate_left; exact zput
    refine pure_ (i := 2) (N := some 19) (v := ?_) (a' := ?_) #[true, true, true, false, false, false, false, false, false, false] rfl rfl (any_of HT_.out (by kernel_rfl)) (fun _ _ _ h => h) (Or.inl ⟨by rfl, ?_⟩) ?_ ?_; rotate_left; exact zy; rotate_left; exact zput
    refine pure_ (i := 4) (N := some 21) (v := ?_) (a' := ?_) #[true, true, true, false, true, false, false, false, false, false] rfl rfl (any_of HT_.out (by kernel_rfl)) (fun _ _ _ h => h) (Or.inl ⟨by rfl, ?_⟩) ?_ ?_; rotate_left; exact zy; rotate_left; exact zput
    refine pure_ (i := 5) (N := some 22) (v := ?_) (a' := ?_) #[true, true, true, false, true, true, false, false, false, false] rfl rfl (any_of HT_.out (by kernel_rfl)) (fun _ _ _ h => h) (Or.inl ⟨by rfl, ?_⟩) ?_ ?_; rotate_left; exact zy; rotate_left; exact zput
    refine pure_ (i := 6) (N := some 23) (v := ?_) (a' := ?_) #[true, true, true, false, true, true, true, false, false, false] rfl rfl (any_of HT_.out (by kernel_rfl)) (fun _ _ _ h => h) (Or.inl ⟨by rfl, ?_⟩) ?_ ?_; rotate_left; exact zy; rotate_left; exact zput
    refine take_ (i := 3) (N := some 20) (v := ?_) (a' := ?_) #[true, true, true, true, true, true, true, false, false, false] rfl rfl (take_ofW HT_.out HW_.out (by kernel_rfl)) (fun _ _ _ h => h) (Or.inl ⟨by rfl, ?_⟩) hHeld ?_ ?_; rotate_left; exact zt12; rotate_left; exact zput
    refine take_ (i := 7) (N := some 24) (v := ?_) (a' := ?_) #[true, true, true, true, true, true, true, true, false, false] rfl rfl (take_ofW HT_.out HW_.out (by kernel_rfl)) (fun _ _ _ h => h) (Or.inl ⟨by rfl, ?_⟩) hHeld ?_ ?_; rotate_left; exact zt12; rotate_left; exact zput
    refine one_ (i := 8) (N := some 25) #[true, true, true, true, true, true, true, true, true, false] rfl rfl (one_of HT_.out (by kernel_rfl)) (by decide) (fun K hK => ?_)
    refine goes_ Try.func27 (by kernel_rfl) rfl #[.agg #[.int .i64 ((rd_T41 l0 x5_1).f0), .int .i64 ((rd_T41 l0 x5_1).f1), .int .i64 ((rd_T41 l0 x5_1).f2), .int .i64 ((rd_T41 l0 x5_1).f3), .int .i64 ((rd_T41 l0 x5_1).f4), .int .i64 ((rd_T41 l0 x5_1).f5)], .agg #[.int .i64 ((rd_T41 l1 x5_1).f0), .int .i64 ((rd_T41 l1 x5_1).f1), .int .i64 ((rd_T41 l1 x5_1).f2), .int .i64 ((rd_T41 l1 x5_1).f3), .int .i64 ((rd_T41 l1 x5_1).f4), .int .i64 ((rd_T41 l1 x5_1).f5)]] (by rfl) rfl rfl zl ?_
    with_reducible refine (laws_eqHandBox.calls ((rd_T41 l0 x5_1).f0) ((rd_T41 l0 x5_1).f1) ((rd_T41 l0 x5_1).f2) ((rd_T41 l0 x5_1).f3) ((rd_T41 l0 x5_1).f4) ((rd_T41 l0 x5_1).f5) ((rd_T41 l1 x5_1).f0) ((rd_T41 l1 x5_1).f1) ((rd_T41 l1 x5_1).f2) ((rd_T41 l1 x5_1).f3) ((rd_T41 l1 x5_1).f4) ((rd_T41 l1 x5_1).f5) false _ A7.out).mono ?_
    rintro e w12 ⟨rfl, hb⟩
    refine ⟨_, rfl, ?_⟩
    have n0_ := Aside0.mk (below_step (zs0 HB) hb)
    clear HB
    revert n0_
    intro HB
    (try clear hb)
    (try clear hb2)
    (try clear hk)
    (try clear hi)
    refine hK.out _ _ ⟨(zx HB hw156_0), (zx HB hw156_1), (zx HB hw156_2), (zx HB hw156_3), (zx HB hw156_4), (zx HB hw156_5), (zx HB hw157_0), (zx HB hw157_1), (zx HB hw157_2), (zx HB hw157_3), (zx HB hw157_4), (zx HB hw157_5)⟩ (fun hHeld => ?_)
    clear hK K
    refine norm_ (a' := ?_) ?_ ?_
    rotate_left
    ·show Act.put _ (some 25) _ = _
     simp only [Act.put, List.setIfInBounds_toArray, List.set_cons_zero, List.set_cons_succ, i64_w, i32_w]
     rfl
    refine pure_ (i := 9) (N := some 26) (v := ?_) (a' := ?_) #[true, true, true, true, true, true, true, true, true, true] rfl rfl (any_of HT_.out (by kernel_rfl)) (fun _ _ _ h => h) (Or.inl ⟨by rfl, ?_⟩) ?_ ?_; rotate_left; exact zy; rotate_left; exact zput
    refine done_ (done_of HT_.out (by kernel_rfl)) ?_
    try go_wp2
    go_ret
    exact ⟨ze, zs0 HB⟩
   subst c8
   have H1 : (laws_eqHandBoxS.l0 k1 l0 l1 (wrap64 (x5_1 + 1))) = some r := by rw [if_pos rfl] at H; exact H
   clear H
   have H := H1
   clear H1
   have H' := Aside0.mk H
   clear H
   try go_wp2
   have n0_ := Aside0.mk (below_drew1 HB.out)
   clear HB
   revert n0_
   intro HB
   have p156 : 0 ≤ (x5_1 : Int) := za
   have q156 : x5_1 < (l0.length : Int) := za
   obtain ⟨ad156, e156, hx156_0, hx156_1, hx156_2, hx156_3, hx156_4, hx156_5⟩ := at_T41 HR0.out x5_1 p156 q156
   have hw156_5 := hx156_5
   have hw156_4 := hx156_4
   have hw156_3 := hx156_3
   have hw156_2 := hx156_2
   have hw156_1 := hx156_1
   have hw156_0 := hx156_0
   cases e156
   replace hx156_0 := zx HB hx156_0
   replace hx156_1 := zx HB hx156_1
   replace hx156_2 := zx HB hx156_2
   replace hx156_3 := zx HB hx156_3
   replace hx156_4 := zx HB hx156_4
   replace hx156_5 := zx HB hx156_5
   replace p156 := eq_true p156
   replace q156 := eq_true q156
   have p157 : 0 ≤ (x5_1 : Int) := za
   have q157 : x5_1 < (l1.length : Int) := za
   obtain ⟨ad157, e157, hx157_0, hx157_1, hx157_2, hx157_3, hx157_4, hx157_5⟩ := at_T41 HR1.out x5_1 p157 q157
   have hw157_5 := hx157_5
   have hw157_4 := hx157_4
   have hw157_3 := hx157_3
   have hw157_2 := hx157_2
   have hw157_1 := hx157_1
   have hw157_0 := hx157_0
   cases e157
   replace hx157_0 := zx HB hx157_0
   replace hx157_1 := zx HB hx157_1
   replace hx157_2 := zx HB hx157_2
   replace hx157_3 := zx HB hx157_3
   replace hx157_4 := zx HB hx157_4
   replace hx157_5 := zx HB hx157_5
   replace p157 := eq_true p157
   replace q157 := eq_true q157
   refine start_ (n := 10) (S := fun w' => w'.cell? (ad156.add ((x5_1).toNat * 6)) = some (.int .i64 ((rd_T41 l0 x5_1).f0)) ∧ w'.cell? ⟨(ad156.add ((x5_1).toNat * 6)).block, (ad156.add ((x5_1).toNat * 6)).off + 1, none⟩ = some (.int .i64 ((rd_T41 l0 x5_1).f1)) ∧ w'.cell? ⟨(ad156.add ((x5_1).toNat * 6)).block, (ad156.add ((x5_1).toNat * 6)).off + 2, none⟩ = some (.int .i64 ((rd_T41 l0 x5_1).f2)) ∧ w'.cell? ⟨(ad156.add ((x5_1).toNat * 6)).block, (ad156.add ((x5_1).toNat * 6)).off + 3, none⟩ = some (.int .i64 ((rd_T41 l0 x5_1).f3)) ∧ w'.cell? ⟨(ad156.add ((x5_1).toNat * 6)).block, (ad156.add ((x5_1).toNat * 6)).off + 4, none⟩ = some (.int .i64 ((rd_T41 l0 x5_1).f4)) ∧ w'.cell? ⟨(ad156.add ((x5_1).toNat * 6)).block, (ad156.add ((x5_1).toNat * 6)).off + 5, none⟩ = some (.int .i64 ((rd_T41 l0 x5_1).f5)) ∧ w'.cell? (ad157.add ((x5_1).toNat * 6)) = some (.int .i64 ((rd_T41 l1 x5_1).f0)) ∧ w'.cell? ⟨(ad157.add ((x5_1).toNat * 6)).block, (ad157.add ((x5_1).toNat * 6)).off + 1, none⟩ = some (.int .i64 ((rd_T41 l1 x5_1).f1)) ∧ w'.cell? ⟨(ad157.add ((x5_1).toNat * 6)).block, (ad157.add ((x5_1).toNat * 6)).off + 2, none⟩ = some (.int .i64 ((rd_T41 l1 x5_1).f2)) ∧ w'.cell? ⟨(ad157.add ((x5_1).toNat * 6)).block, (ad157.add ((x5_1).toNat * 6)).off + 3, none⟩ = some (.int .i64 ((rd_T41 l1 x5_1).f3)) ∧ w'.cell? ⟨(ad157.add ((x5_1).toNat * 6)).block, (ad157.add ((x5_1).toNat * 6)).off + 4, none⟩ = some (.int .i64 ((rd_T41 l1 x5_1).f4)) ∧ w'.cell? ⟨(ad157.add ((x5_1).toNat * 6)).block, (ad157.add ((x5_1).toNat * 6)).off + 5, none⟩ = some (.int .i64 ((rd_T41 l1 x5_1).f5))) (ds := []) #[false, false, false, false, false, false, false, false, false, false] (by kernel_rfl) rfl rfl ⟨(zx HB hw156_0), (zx HB hw156_1), (zx HB hw156_2), (zx HB hw156_3), (zx HB hw156_4), (zx HB hw156_5), (zx HB hw157_0), (zx HB hw157_1), (zx HB hw157_2), (zx HB hw157_3), (zx HB hw157_4), (zx HB hw157_5)⟩ (fun hHeld => ?_); refine with_tabW laws_eqHandBoxS.tab6 laws_eqHandBoxS.bits6 (fun HT_ HW_ => ?_)
   generalize wr.drew = w9 at HB hx156_0 hx156_1 hx156_2 hx156_3 hx156_4 hx156_5 hx157_0 hx157_1 hx157_2 hx157_3 hx157_4 hx157_5 hHeld ⊢
   refine pure_ (i := 0) (N := some 17) (v := ?_) (a' := ?_) #[true, false, false, false, false, false, false, false, false, false] rfl rfl (any_of HT_.out (by kernel_rfl)) (fun _ _ _ h => h) (Or.inl ⟨by rfl, ?_⟩) ?_ ?_; rotate_left; exact zy; rotate_left; exact zput
   refine pure_ (i := 1) (N := some 18) (v := ?_) (a' := ?_) #[true, true, false, false, false, false, false, false, false, false] rfl rfl (any_of HT_.out (by kernel_rfl)) (fun _ _ _ h => h) (Or.inl ⟨by rfl, ?_⟩) ?_ ?_; rotate_left; exact zy; rotate_left; exact zput
   refine pure_ (i := 2) (N := some 19) (v := ?_) (a' := ?_) #[true, true, true, false, false, false, false, false, false, false] rfl rfl (any_of HT_.out (by kernel_rfl)) (fun _ _ _ h => h) (Or.inl ⟨by rfl, ?_⟩) ?_ ?_; rotate_left; exact zy; rotate_left; exact zput
   refine pure_ (i := 4) (N := some 21) (v := ?_) (a' := ?_) #[true, true, true, false, true, false, false, false, false, false] rfl rfl (any_of HT_.out (by kernel_rfl)) (fun _ _ _ h => h) (Or.inl ⟨by rfl, ?_⟩) ?_ ?_; rotate_left; exact zy; rotate_left; exact zput
   refine pure_ (i := 5) (N := some 22) (v := ?_) (a' := ?_) #[true, true, true, false, true, true, false, false, false, false] rfl rfl (any_of HT_.out (by kernel_rfl)) (fun _ _ _ h => h) (Or.inl ⟨by rfl, ?_⟩) ?_ ?_; rotate_left; exact zy; rotate_left; exact zput
   refine pure_ (i := 6) (N := some 23) (v := ?_) (a' := ?_) #[true, true, true, false, true, true, true, false, false, false] rfl rfl (any_of HT_.out (by kernel_rfl)) (fun _ _ _ h => h) (Or.inl ⟨by rfl, ?_⟩) ?_ ?_; rotate_left; exact zy; rotate_left; exact zput
   refine take_ (i := 3) (N := some 20) (v := ?_) (a' := ?_) #[true, true, true, true, true, true, true, false, false, false] rfl rfl (take_ofW HT_.out HW_.out (by kernel_rfl)) (fun _ _ _ h => h) (Or.inl ⟨by rfl, ?_⟩) hHeld ?_ ?_; rotate_left; exact zt12; rotate_left; exact zput
   refine take_ (i := 7) (N := some 24) (v := ?_) (a' := ?_) #[true, true, true, true, true, true, true, true, false, false] rfl rfl (take_ofW HT_.out HW_.out (by kernel_rfl)) (fun _ _ _ h => h) (Or.inl ⟨by rfl, ?_⟩) hHeld ?_ ?_; rotate_left; exact zt12; rotate_left; exact zput
   refine one_ (i := 8) (N := some 25) #[true, true, true, true, true, true, true, true, true, false] rfl rfl (one_of HT_.out (by kernel_rfl)) (by decide) (fun K hK => ?_)
   refine goes_ Try.func27 (by kernel_rfl) rfl #[.agg #[.int .i64 ((rd_T41 l0 x5_1).f0), .int .i64 ((rd_T41 l0 x5_1).f1), .int .i64 ((rd_T41 l0 x5_1).f2), .int .i64 ((rd_T41 l0 x5_1).f3), .int .i64 ((rd_T41 l0 x5_1).f4), .int .i64 ((rd_T41 l0 x5_1).f5)], .agg #[.int .i64 ((rd_T41 l1 x5_1).f0), .int .i64 ((rd_T41 l1 x5_1).f1), .int .i64 ((rd_T41 l1 x5_1).f2), .int .i64 ((rd_T41 l1 x5_1).f3), .int .i64 ((rd_T41 l1 x5_1).f4), .int .i64 ((rd_T41 l1 x5_1).f5)]] (by rfl) rfl rfl zl ?_
   with_reducible refine (laws_eqHandBox.calls ((rd_T41 l0 x5_1).f0) ((rd_T41 l0 x5_1).f1) ((rd_T41 l0 x5_1).f2) ((rd_T41 l0 x5_1).f3) ((rd_T41 l0 x5_1).f4) ((rd_T41 l0 x5_1).f5) ((rd_T41 l1 x5_1).f0) ((rd_T41 l1 x5_1).f1) ((rd_T41 l1 x5_1).f2) ((rd_T41 l1 x5_1).f3) ((rd_T41 l1 x5_1).f4) ((rd_T41 l1 x5_1).f5) true _ A7.out).mono ?_
   rintro e w10 ⟨rfl, hb⟩
   refine ⟨_, rfl, ?_⟩
   have n0_ := Aside0.mk (below_step (zs0 HB) hb)
   clear HB
   revert n0_
   intro HB
   (try clear hb)
   (try clear hb2)
   (try clear hk)
   (try clear hi)
   refine hK.out _ _ ⟨(zx HB hw156_0), (zx HB hw156_1), (zx HB hw156_2), (zx HB hw156_3), (zx HB hw156_4), (zx HB hw156_5), (zx HB hw157_0), (zx HB hw157_1), (zx HB hw157_2), (zx HB hw157_3), (zx HB hw157_4), (zx HB hw157_5)⟩ (fun hHeld => ?_)
   clear hK K
   refine norm_ (a' := ?_) ?_ ?_
   rotate_left
   ·show Act.put _ (some 25) _ = _
    simp only [Act.put, List.setIfInBounds_toArray, List.set_cons_zero, List.set_cons_succ, i64_w, i32_w]
    rfl
   refine pure_ (i := 9) (N := some 26) (v := ?_) (a' := ?_) #[true, true, true, true, true, true, true, true, true, true] rfl rfl (any_of HT_.out (by kernel_rfl)) (fun _ _ _ h => h) (Or.inl ⟨by rfl, ?_⟩) ?_ ?_; rotate_left; exact zy; rotate_left; exact zput
   refine done_ (done_of HT_.out (by kernel_rfl)) ?_
   try go_wp2
   go_roundg k1
   case measure => have := HK1.out; omega
   case rel => exact ⟨(wrap64 (x5_1 + 1)), zi, H', ⟨by have := HK1.out; omega⟩, ⟨zs0 HB⟩⟩
def laws_FnExactLapDue.f (k : Nat) (l0 : List (S52)) (l1 : List (S120)) (a2 : Int) : Option (Bool) := (laws_szHandZoneS.f k l0 1048576).bind fun t159 => (if t159 < 0 then (some true) else ((laws_szHandBoxS.f l1 t159).bind fun t160 => (if t160 < 0 then (some true) else ((laws_toHandZoneS.f k l0).bind fun t161 => ((laws_toHandBoxS.f k l1).bind fun t164 => ((spec_LapDue.f k t161 t164 a2).bind fun t167 => ((laws_toHandZoneS.f k l0).bind fun t168 => ((laws_toHandBoxS.f k l1).bind fun t171 => ((impl_LapDue.f k t168 t171 a2).bind fun t174 => (if t174.toList = t167.toList then ((laws_toHandZoneS.f k l0).bind fun t175 => ((laws_eqHandZoneS.f k t168 t175).bind fun t178 => (if t178 = true then ((laws_toHandBoxS.f k l1).bind fun t179 => ((laws_eqHandBoxS.f k t171 t179).bind fun t182 => (if t182 = true then (some true) else (some false)))) else (some false)))) else (some false)))))))))))
set_option maxHeartbeats 8000000 in
set_option maxRecDepth 100000 in
theorem laws_FnExactLapDue.calls (k : Nat) (A0 : Option Addr) (c0 : Nat) (l0 : List (S52)) (A1 : Option Addr) (c1 : Nat) (l1 : List (S120)) (a2 : Int) (r : Bool) (w : World) (hr0 : Kd.C k52 w A0 l0.length l0) (hc0 : l0.length ≤ c0) (hr1 : Kd.C k120 w A1 l1.length l1) (hc1 : l1.length ≤ c1) (h : laws_FnExactLapDue.f k l0 l1 a2 = some r) :
 Calls Try.prog 3 #[.slice A0 l0.length c0, .slice A1 l1.length c1, .int .i64 a2] w fun e w' => e = .returned (.bool r) ∧ Below w.heap.size w w' := by
 have HR0 := Aside0.mk hr0
 have HC0 := Aside0.mk hc0
 clear hr0 hc0
 have HR1 := Aside0.mk hr1
 have HC1 := Aside0.mk hc1
 clear hr1 hc1
 have HB := Aside0.mk (Below.refl w.heap.size w)
 have H : ((laws_szHandZoneS.f k l0 1048576).bind fun t159 => (if t159 < 0 then (some true) else ((laws_szHandBoxS.f l1 t159).bind fun t160 => (if t160 < 0 then (some true) else ((laws_toHandZoneS.f k l0).bind fun t161 => ((laws_toHandBoxS.f k l1).bind fun t164 => ((spec_LapDue.f k t161 t164 a2).bind fun t167 => ((laws_toHandZoneS.f k l0).bind fun t168 => ((laws_toHandBoxS.f k l1).bind fun t171 => ((impl_LapDue.f k t168 t171 a2).bind fun t174 => (if t174.toList = t167.toList then ((laws_toHandZoneS.f k l0).bind fun t175 => ((laws_eqHandZoneS.f k t168 t175).bind fun t178 => (if t178 = true then ((laws_toHandBoxS.f k l1).bind fun t179 => ((laws_eqHandBoxS.f k t171 t179).bind fun t182 => (if t182 = true then (some true) else (some false)))) else (some false)))) else (some false)))))))))))) = some r := h
 clear h
 replace H := Option.bind_eq_some_iff.mp H
 obtain ⟨t159, A40, H⟩ := H
 replace H : (if t159 < 0 then (some true) else ((laws_szHandBoxS.f l1 t159).bind fun t160 => (if t160 < 0 then (some true) else ((laws_toHandZoneS.f k l0).bind fun t161 => ((laws_toHandBoxS.f k l1).bind fun t164 => ((spec_LapDue.f k t161 t164 a2).bind fun t167 => ((laws_toHandZoneS.f k l0).bind fun t168 => ((laws_toHandBoxS.f k l1).bind fun t171 => ((impl_LapDue.f k t168 t171 a2).bind fun t174 => (if t174.toList = t167.toList then ((laws_toHandZoneS.f k l0).bind fun t175 => ((laws_eqHandZoneS.f k t168 t175).bind fun t178 => (if t178 = true then ((laws_toHandBoxS.f k l1).bind fun t179 => ((laws_eqHandBoxS.f k t171 t179).bind fun t182 => (if t182 = true then (some true) else (some false)))) else (some false)))) else (some false))))))))))) = some r := H
 have A4 := Aside0.mk A40
 clear A40
 by_cases c5 : t159 < 0
 ·rw [if_pos c5] at H
  have c5b0 : decide (t159 < 0) = true := decide_eq_true c5
  clear c5
  obtain rfl := Option.some.inj H
  go_enter Try.func3, Try.ntmps3
  go_wp2_with (first | ((with_reducible refine gate_callee (f := 15) rfl ?_); refine goesL_ (some 14) rfl rfl Try.func15 (by kernel_rfl) rfl #[.slice A0 l0.length c0, .int .i64 1048576] rfl zl ?_; (with_reducible refine (laws_szHandZoneS.calls k _ _ l0 1048576 t159 _ ?side1 ?side2 A4.out).mono ?_); (case side1 => repeat (first | exact HR0.out | (with_reducible refine Kd.C_alloc ?_ _) | (with_reducible refine Kd.C_drewN ?_ _) | (with_reducible refine Kd.C_drew ?_))); (case side2 => exact HC0.out); rintro e w6 ⟨rfl, hb⟩; refine ⟨_, rfl, ?_⟩; have n0_ := Aside0.mk (below_step (zs0 HB) hb); clear HB; revert n0_; intro HB; (try clear hb); (try clear hb2); (try clear hk); (try clear hi)))
  go_ret
  exact ⟨ze, zs0 HB⟩
 rw [if_neg c5] at H
 have c5b0 : decide (t159 < 0) = false := decide_eq_false c5
 clear c5
 replace H := Option.bind_eq_some_iff.mp H
 obtain ⟨t160, A70, H⟩ := H
 replace H : (if t160 < 0 then (some true) else ((laws_toHandZoneS.f k l0).bind fun t161 => ((laws_toHandBoxS.f k l1).bind fun t164 => ((spec_LapDue.f k t161 t164 a2).bind fun t167 => ((laws_toHandZoneS.f k l0).bind fun t168 => ((laws_toHandBoxS.f k l1).bind fun t171 => ((impl_LapDue.f k t168 t171 a2).bind fun t174 => (if t174.toList = t167.toList then ((laws_toHandZoneS.f k l0).bind fun t175 => ((laws_eqHandZoneS.f k t168 t175).bind fun t178 => (if t178 = true then ((laws_toHandBoxS.f k l1).bind fun t179 => ((laws_eqHandBoxS.f k t171 t179).bind fun t182 => (if t182 = true then (some true) else (some false)))) else (some false)))) else (some false))))))))) = some r := H
 have A7 := Aside0.mk A70
 clear A70
 by_cases c8 : t160 < 0
 ·rw [if_pos c8] at H
  have c8b0 : decide (t160 < 0) = true := decide_eq_true c8
  clear c8
  obtain rfl := Option.some.inj H
  go_enter Try.func3, Try.ntmps3
  go_wp2_with (first | ((with_reducible refine gate_callee (f := 15) rfl ?_); refine goesL_ (some 14) rfl rfl Try.func15 (by kernel_rfl) rfl #[.slice A0 l0.length c0, .int .i64 1048576] rfl zl ?_; (with_reducible refine (laws_szHandZoneS.calls k _ _ l0 1048576 t159 _ ?side1 ?side2 A4.out).mono ?_); (case side1 => repeat (first | exact HR0.out | (with_reducible refine Kd.C_alloc ?_ _) | (with_reducible refine Kd.C_drewN ?_ _) | (with_reducible refine Kd.C_drew ?_))); (case side2 => exact HC0.out); rintro e w9 ⟨rfl, hb⟩; refine ⟨_, rfl, ?_⟩; have n0_ := Aside0.mk (below_step (zs0 HB) hb); clear HB; revert n0_; intro HB; (try clear hb); (try clear hb2); (try clear hk); (try clear hi)) | ((with_reducible refine gate_callee (f := 16) rfl ?_); refine goesL_ (some 19) rfl rfl Try.func16 (by kernel_rfl) rfl #[.slice A1 l1.length c1, .int .i64 t159] rfl zl ?_; (with_reducible refine (laws_szHandBoxS.calls _ _ l1 t159 t160 _ ?side1 ?side2 A7.out).mono ?_); (case side1 => exact zC HR1 HB); (case side2 => exact HC1.out); rintro e w' ⟨rfl, ⟨nd, rfl⟩⟩; refine ⟨_, rfl, ?_⟩))
  go_ret
  exact ⟨ze, zs0 HB⟩
 rw [if_neg c8] at H
 have c8b0 : decide (t160 < 0) = false := decide_eq_false c8
 clear c8
 replace H := Option.bind_eq_some_iff.mp H
 obtain ⟨t161, A100, H⟩ := H
 replace H : ((laws_toHandBoxS.f k l1).bind fun t164 => ((spec_LapDue.f k t161 t164 a2).bind fun t167 => ((laws_toHandZoneS.f k l0).bind fun t168 => ((laws_toHandBoxS.f k l1).bind fun t171 => ((impl_LapDue.f k t168 t171 a2).bind fun t174 => (if t174.toList = t167.toList then ((laws_toHandZoneS.f k l0).bind fun t175 => ((laws_eqHandZoneS.f k t168 t175).bind fun t178 => (if t178 = true then ((laws_toHandBoxS.f k l1).bind fun t179 => ((laws_eqHandBoxS.f k t171 t179).bind fun t182 => (if t182 = true then (some true) else (some false)))) else (some false)))) else (some false))))))) = some r := H
 have A10 := Aside0.mk A100
 clear A100
 replace H := Option.bind_eq_some_iff.mp H
 obtain ⟨t164, A110, H⟩ := H
 replace H : ((spec_LapDue.f k t161 t164 a2).bind fun t167 => ((laws_toHandZoneS.f k l0).bind fun t168 => ((laws_toHandBoxS.f k l1).bind fun t171 => ((impl_LapDue.f k t168 t171 a2).bind fun t174 => (if t174.toList = t167.toList then ((laws_toHandZoneS.f k l0).bind fun t175 => ((laws_eqHandZoneS.f k t168 t175).bind fun t178 => (if t178 = true then ((laws_toHandBoxS.f k l1).bind fun t179 => ((laws_eqHandBoxS.f k t171 t179).bind fun t182 => (if t182 = true then (some true) else (some false)))) else (some false)))) else (some false)))))) = some r := H
 have A11 := Aside0.mk A110
 clear A110
 replace H := Option.bind_eq_some_iff.mp H
 obtain ⟨t167, A120, H⟩ := H
 replace H : ((laws_toHandZoneS.f k l0).bind fun t168 => ((laws_toHandBoxS.f k l1).bind fun t171 => ((impl_LapDue.f k t168 t171 a2).bind fun t174 => (if t174.toList = t167.toList then ((laws_toHandZoneS.f k l0).bind fun t175 => ((laws_eqHandZoneS.f k t168 t175).bind fun t178 => (if t178 = true then ((laws_toHandBoxS.f k l1).bind fun t179 => ((laws_eqHandBoxS.f k t171 t179).bind fun t182 => (if t182 = true then (some true) else (some false)))) else (some false)))) else (some false))))) = some r := H
 have A12 := Aside0.mk A120
 clear A120
 replace H := Option.bind_eq_some_iff.mp H
 obtain ⟨t168, A130, H⟩ := H
 replace H : ((laws_toHandBoxS.f k l1).bind fun t171 => ((impl_LapDue.f k t168 t171 a2).bind fun t174 => (if t174.toList = t167.toList then ((laws_toHandZoneS.f k l0).bind fun t175 => ((laws_eqHandZoneS.f k t168 t175).bind fun t178 => (if t178 = true then ((laws_toHandBoxS.f k l1).bind fun t179 => ((laws_eqHandBoxS.f k t171 t179).bind fun t182 => (if t182 = true then (some true) else (some false)))) else (some false)))) else (some false)))) = some r := H
 have A13 := Aside0.mk A130
 clear A130
 replace H := Option.bind_eq_some_iff.mp H
 obtain ⟨t171, A140, H⟩ := H
 replace H : ((impl_LapDue.f k t168 t171 a2).bind fun t174 => (if t174.toList = t167.toList then ((laws_toHandZoneS.f k l0).bind fun t175 => ((laws_eqHandZoneS.f k t168 t175).bind fun t178 => (if t178 = true then ((laws_toHandBoxS.f k l1).bind fun t179 => ((laws_eqHandBoxS.f k t171 t179).bind fun t182 => (if t182 = true then (some true) else (some false)))) else (some false)))) else (some false))) = some r := H
 have A14 := Aside0.mk A140
 clear A140
 replace H := Option.bind_eq_some_iff.mp H
 obtain ⟨t174, A150, H⟩ := H
 replace H : (if t174.toList = t167.toList then ((laws_toHandZoneS.f k l0).bind fun t175 => ((laws_eqHandZoneS.f k t168 t175).bind fun t178 => (if t178 = true then ((laws_toHandBoxS.f k l1).bind fun t179 => ((laws_eqHandBoxS.f k t171 t179).bind fun t182 => (if t182 = true then (some true) else (some false)))) else (some false)))) else (some false)) = some r := H
 have A15 := Aside0.mk A150
 clear A150
 by_cases c16 : t174.toList = t167.toList
 rotate_left
 ·rw [if_neg c16] at H
  have c16b0 : (t174.toList == t167.toList) = false := beq_eq_false_iff_ne.mpr c16
  have c16b1 : (t174.toList != t167.toList) = true := bne_iff_ne.mpr c16
  obtain rfl := Option.some.inj H
  go_enter Try.func3, Try.ntmps3
  go_wp2_with (first | ((with_reducible refine gate_callee (f := 15) rfl ?_); refine goesL_ (some 14) rfl rfl Try.func15 (by kernel_rfl) rfl #[.slice A0 l0.length c0, .int .i64 1048576] rfl zl ?_; (with_reducible refine (laws_szHandZoneS.calls k _ _ l0 1048576 t159 _ ?side1 ?side2 A4.out).mono ?_); (case side1 => repeat (first | exact HR0.out | (with_reducible refine Kd.C_alloc ?_ _) | (with_reducible refine Kd.C_drewN ?_ _) | (with_reducible refine Kd.C_drew ?_))); (case side2 => exact HC0.out); rintro e w71 ⟨rfl, hb⟩; refine ⟨_, rfl, ?_⟩; have n0_ := Aside0.mk (below_step (zs0 HB) hb); clear HB; revert n0_; intro HB; (try clear hb); (try clear hb2); (try clear hk); (try clear hi)) | ((with_reducible refine gate_callee (f := 16) rfl ?_); refine goesL_ (some 19) rfl rfl Try.func16 (by kernel_rfl) rfl #[.slice A1 l1.length c1, .int .i64 t159] rfl zl ?_; (with_reducible refine (laws_szHandBoxS.calls _ _ l1 t159 t160 _ ?side1 ?side2 A7.out).mono ?_); (case side1 => exact zC HR1 HB); (case side2 => exact HC1.out); rintro e w' ⟨rfl, ⟨nd, rfl⟩⟩; refine ⟨_, rfl, ?_⟩) | ((with_reducible refine gate_callee (f := 18) rfl ?_); refine goesL_ (some 23) rfl rfl Try.func18 (by kernel_rfl) rfl #[.slice A0 l0.length c0] rfl zl ?_; (with_reducible refine (laws_toHandZoneS.calls k _ _ l0 t161 _ ?side1 ?side2 A10.out).mono ?_); (case side1 => repeat (first | exact (Kd.C_below HR0.out (zs0 HB)) | (with_reducible refine Kd.C_alloc ?_ _) | (with_reducible refine Kd.C_drewN ?_ _) | (with_reducible refine Kd.C_drew ?_))); (case side2 => exact HC0.out); rintro e w72 ⟨v162, rfl, ho0, hb⟩; refine ⟨_, rfl, ?_⟩; have n0_ := Aside0.mk (Kd.R_lower ho0 (below_size (zs0 HB))); have n1_ := Aside0.mk (below_step (zs0 HB) hb); clear HB; have HO163 := n0_; have HB := n1_; clear n0_ n1_; (try clear hb); (try clear hb2); (try clear hk); (try clear hi); (try clear ho0)) | ((with_reducible refine gate_callee (f := 19) rfl ?_); refine goesL_ (some 25) rfl rfl Try.func19 (by kernel_rfl) rfl #[.slice A1 l1.length c1] rfl zl ?_; (with_reducible refine (laws_toHandBoxS.calls k _ _ l1 t164 _ ?side1 ?side2 A11.out).mono ?_); (case side1 => exact zC HR1 HB); (case side2 => exact HC1.out); rintro e w73 ⟨v165, rfl, ho0, hb⟩; refine ⟨_, rfl, ?_⟩; have n0_ := Aside0.mk (Kd.R_below (zr HO163) hb); have n1_ := Aside0.mk (Kd.R_lower ho0 (below_size (zs0 HB))); have n2_ := Aside0.mk (below_step (zs0 HB) hb); clear HO163; clear HB; have HO163 := n0_; have HO166 := n1_; have HB := n2_; clear n0_ n1_ n2_; (try clear hb); (try clear hb2); (try clear hk); (try clear hi); (try clear ho0); obtain ⟨Ao74, co74, eo74⟩ := Kd.R_slice HO163.out; subst eo74; obtain ⟨Ao75, co75, eo75⟩ := Kd.R_slice HO166.out; subst eo75) | ((with_reducible refine gate_callee (f := 17) rfl ?_); refine goesL_ (some 27) rfl rfl Try.func17 (by kernel_rfl) rfl #[.slice Ao74 t161.length co74, .slice Ao75 t164.length co75, .int .i64 a2] rfl zl ?_; (with_reducible refine (spec_LapDue.calls k _ _ t161 _ _ t164 a2 t167 _ ?side1 ?side2 ?side3 ?side4 A12.out).mono ?_); (case side1 => repeat (first | exact (Kd.R_reads' HO163.out).2.2 | (with_reducible refine Kd.C_alloc ?_ _) | (with_reducible refine Kd.C_drewN ?_ _) | (with_reducible refine Kd.C_drew ?_))); (case side2 => exact (Kd.R_reads' HO163.out).2.1); (case side3 => repeat (first | exact (Kd.R_reads' HO166.out).2.2 | (with_reducible refine Kd.C_alloc ?_ _) | (with_reducible refine Kd.C_drewN ?_ _) | (with_reducible refine Kd.C_drew ?_))); (case side4 => exact (Kd.R_reads' HO166.out).2.1); rintro e w76 ⟨rfl, hb⟩; refine ⟨_, rfl, ?_⟩; have n0_ := Aside0.mk (Kd.R_below (zr HO163) hb); have n1_ := Aside0.mk (Kd.R_below (zr HO166) hb); have n2_ := Aside0.mk (below_step (zs0 HB) hb); clear HO163 HO166 HB; revert n0_ n1_ n2_; intro HO163 HO166 HB; (try clear hb); (try clear hb2); (try clear hk); (try clear hi)) | ((with_reducible refine gate_callee (f := 18) rfl ?_); refine goesL_ (some 29) rfl rfl Try.func18 (by kernel_rfl) rfl #[.slice A0 l0.length c0] rfl zl ?_; (with_reducible refine (laws_toHandZoneS.calls k _ _ l0 t168 _ ?side1 ?side2 A13.out).mono ?_); (case side1 => exact zC HR0 HB); (case side2 => exact HC0.out); rintro e w77 ⟨v169, rfl, ho0, hb⟩; refine ⟨_, rfl, ?_⟩; have n0_ := Aside0.mk (Kd.R_elder' (zr HO163) (Kd.R_base ho0) hb); have n1_ := Aside0.mk (Kd.R_below (zr HO166) hb); have n2_ := Aside0.mk (Kd.R_lower (Kd.R_new' ho0 (Kd.R_lt (zr HO163))) (below_size (zs0 HB))); have n3_ := Aside0.mk (below_step (zs0 HB) hb); clear HO163; clear HO166; clear HB; have HO163 := n0_; have HO166 := n1_; have HO170 := n2_; have HB := n3_; clear n0_ n1_ n2_ n3_; (try clear hb); (try clear hb2); (try clear hk); (try clear hi); (try clear ho0)) | ((with_reducible refine gate_callee (f := 19) rfl ?_); refine goesL_ (some 31) rfl rfl Try.func19 (by kernel_rfl) rfl #[.slice A1 l1.length c1] rfl zl ?_; (with_reducible refine (laws_toHandBoxS.calls k _ _ l1 t171 _ ?side1 ?side2 A14.out).mono ?_); (case side1 => exact zC HR1 HB); (case side2 => exact HC1.out); rintro e w78 ⟨v172, rfl, ho0, hb⟩; refine ⟨_, rfl, ?_⟩; have n0_ := Aside0.mk (Kd.R_below (zr HO163) hb); have n1_ := Aside0.mk (Kd.R_elder' (zr HO166) (Kd.R_base ho0) hb); have n2_ := Aside0.mk (Kd.R_below (zr HO170) hb); have n3_ := Aside0.mk (Kd.R_lower (Kd.R_new' ho0 (Kd.R_lt (zr HO166))) (below_size (zs0 HB))); have n4_ := Aside0.mk (below_step (zs0 HB) hb); clear HO163; clear HO166; clear HO170; clear HB; have HO163 := n0_; have HO166 := n1_; have HO170 := n2_; have HO173 := n3_; have HB := n4_; clear n0_ n1_ n2_ n3_ n4_; (try clear hb); (try clear hb2); (try clear hk); (try clear hi); (try clear ho0); obtain ⟨Ao79, co79, eo79⟩ := Kd.R_slice HO170.out; subst eo79; obtain ⟨Ao80, co80, eo80⟩ := Kd.R_slice HO173.out; subst eo80) | ((with_reducible refine gate_callee (f := 20) rfl ?_); refine goesL_ (some 35) rfl rfl Try.func20 (by kernel_rfl) rfl #[.slice Ao79 t168.length co79, .slice Ao80 t171.length co80, .int .i64 a2] rfl zl ?_; (with_reducible refine (impl_LapDue.calls k _ _ t168 _ _ t171 a2 t174 _ ?side1 ?side2 ?side3 ?side4 A15.out).mono ?_); (case side1 => repeat (first | exact (Kd.R_reads' HO170.out).2.2 | (with_reducible refine Kd.C_alloc ?_ _) | (with_reducible refine Kd.C_drewN ?_ _) | (with_reducible refine Kd.C_drew ?_))); (case side2 => exact (Kd.R_reads' HO170.out).2.1); (case side3 => repeat (first | exact (Kd.R_reads' HO173.out).2.2 | (with_reducible refine Kd.C_alloc ?_ _) | (with_reducible refine Kd.C_drewN ?_ _) | (with_reducible refine Kd.C_drew ?_))); (case side4 => exact (Kd.R_reads' HO173.out).2.1); rintro e w81 ⟨rfl, hb⟩; refine ⟨_, rfl, ?_⟩; have n0_ := Aside0.mk (Kd.R_below (zr HO163) hb); have n1_ := Aside0.mk (Kd.R_below (zr HO166) hb); have n2_ := Aside0.mk (Kd.R_below (zr HO170) hb); have n3_ := Aside0.mk (Kd.R_below (zr HO173) hb); have n4_ := Aside0.mk (below_step (zs0 HB) hb); clear HO163 HO166 HO170 HO173 HB; revert n0_ n1_ n2_ n3_ n4_; intro HO163 HO166 HO170 HO173 HB; (try clear hb); (try clear hb2); (try clear hk); (try clear hi)))
  go_ret
  exact ⟨ze, zs0 HB⟩
 rw [if_pos c16] at H
 have c16b0 : (t174.toList == t167.toList) = true := beq_iff_eq.mpr c16
 have c16b1 : (t174.toList != t167.toList) = false := bne_eq_false_iff_eq.mpr c16
 clear c16
 replace H := Option.bind_eq_some_iff.mp H
 obtain ⟨t175, A170, H⟩ := H
 replace H : ((laws_eqHandZoneS.f k t168 t175).bind fun t178 => (if t178 = true then ((laws_toHandBoxS.f k l1).bind fun t179 => ((laws_eqHandBoxS.f k t171 t179).bind fun t182 => (if t182 = true then (some true) else (some false)))) else (some false))) = some r := H
 have A17 := Aside0.mk A170
 clear A170
 replace H := Option.bind_eq_some_iff.mp H
 obtain ⟨t178, A180, H⟩ := H
 replace H : (if t178 = true then ((laws_toHandBoxS.f k l1).bind fun t179 => ((laws_eqHandBoxS.f k t171 t179).bind fun t182 => (if t182 = true then (some true) else (some false)))) else (some false)) = some r := H
 have A18 := Aside0.mk A180
 clear A180
 by_cases c19 : t178 = true
 rotate_left
 ·replace c19 := Bool.eq_false_iff.mpr c19
  subst c19
  have H1 : (some false) = some r := by rw [if_neg (show ¬ (false = true) by decide)] at H; exact H
  clear H
  have H := H1
  clear H1
  obtain rfl := Option.some.inj H
  go_enter Try.func3, Try.ntmps3
  go_wp2_with (first | ((with_reducible refine gate_callee (f := 15) rfl ?_); refine goesL_ (some 14) rfl rfl Try.func15 (by kernel_rfl) rfl #[.slice A0 l0.length c0, .int .i64 1048576] rfl zl ?_; (with_reducible refine (laws_szHandZoneS.calls k _ _ l0 1048576 t159 _ ?side1 ?side2 A4.out).mono ?_); (case side1 => repeat (first | exact HR0.out | (with_reducible refine Kd.C_alloc ?_ _) | (with_reducible refine Kd.C_drewN ?_ _) | (with_reducible refine Kd.C_drew ?_))); (case side2 => exact HC0.out); rintro e w57 ⟨rfl, hb⟩; refine ⟨_, rfl, ?_⟩; have n0_ := Aside0.mk (below_step (zs0 HB) hb); clear HB; revert n0_; intro HB; (try clear hb); (try clear hb2); (try clear hk); (try clear hi)) | ((with_reducible refine gate_callee (f := 16) rfl ?_); refine goesL_ (some 19) rfl rfl Try.func16 (by kernel_rfl) rfl #[.slice A1 l1.length c1, .int .i64 t159] rfl zl ?_; (with_reducible refine (laws_szHandBoxS.calls _ _ l1 t159 t160 _ ?side1 ?side2 A7.out).mono ?_); (case side1 => exact zC HR1 HB); (case side2 => exact HC1.out); rintro e w' ⟨rfl, ⟨nd, rfl⟩⟩; refine ⟨_, rfl, ?_⟩) | ((with_reducible refine gate_callee (f := 18) rfl ?_); refine goesL_ (some 23) rfl rfl Try.func18 (by kernel_rfl) rfl #[.slice A0 l0.length c0] rfl zl ?_; (with_reducible refine (laws_toHandZoneS.calls k _ _ l0 t161 _ ?side1 ?side2 A10.out).mono ?_); (case side1 => repeat (first | exact (Kd.C_below HR0.out (zs0 HB)) | (with_reducible refine Kd.C_alloc ?_ _) | (with_reducible refine Kd.C_drewN ?_ _) | (with_reducible refine Kd.C_drew ?_))); (case side2 => exact HC0.out); rintro e w58 ⟨v162, rfl, ho0, hb⟩; refine ⟨_, rfl, ?_⟩; have n0_ := Aside0.mk (Kd.R_lower ho0 (below_size (zs0 HB))); have n1_ := Aside0.mk (below_step (zs0 HB) hb); clear HB; have HO163 := n0_; have HB := n1_; clear n0_ n1_; (try clear hb); (try clear hb2); (try clear hk); (try clear hi); (try clear ho0)) | ((with_reducible refine gate_callee (f := 19) rfl ?_); refine goesL_ (some 25) rfl rfl Try.func19 (by kernel_rfl) rfl #[.slice A1 l1.length c1] rfl zl ?_; (with_reducible refine (laws_toHandBoxS.calls k _ _ l1 t164 _ ?side1 ?side2 A11.out).mono ?_); (case side1 => exact zC HR1 HB); (case side2 => exact HC1.out); rintro e w59 ⟨v165, rfl, ho0, hb⟩; refine ⟨_, rfl, ?_⟩; have n0_ := Aside0.mk (Kd.R_below (zr HO163) hb); have n1_ := Aside0.mk (Kd.R_lower ho0 (below_size (zs0 HB))); have n2_ := Aside0.mk (below_step (zs0 HB) hb); clear HO163; clear HB; have HO163 := n0_; have HO166 := n1_; have HB := n2_; clear n0_ n1_ n2_; (try clear hb); (try clear hb2); (try clear hk); (try clear hi); (try clear ho0); obtain ⟨Ao60, co60, eo60⟩ := Kd.R_slice HO163.out; subst eo60; obtain ⟨Ao61, co61, eo61⟩ := Kd.R_slice HO166.out; subst eo61) | ((with_reducible refine gate_callee (f := 17) rfl ?_); refine goesL_ (some 27) rfl rfl Try.func17 (by kernel_rfl) rfl #[.slice Ao60 t161.length co60, .slice Ao61 t164.length co61, .int .i64 a2] rfl zl ?_; (with_reducible refine (spec_LapDue.calls k _ _ t161 _ _ t164 a2 t167 _ ?side1 ?side2 ?side3 ?side4 A12.out).mono ?_); (case side1 => repeat (first | exact (Kd.R_reads' HO163.out).2.2 | (with_reducible refine Kd.C_alloc ?_ _) | (with_reducible refine Kd.C_drewN ?_ _) | (with_reducible refine Kd.C_drew ?_))); (case side2 => exact (Kd.R_reads' HO163.out).2.1); (case side3 => repeat (first | exact (Kd.R_reads' HO166.out).2.2 | (with_reducible refine Kd.C_alloc ?_ _) | (with_reducible refine Kd.C_drewN ?_ _) | (with_reducible refine Kd.C_drew ?_))); (case side4 => exact (Kd.R_reads' HO166.out).2.1); rintro e w62 ⟨rfl, hb⟩; refine ⟨_, rfl, ?_⟩; have n0_ := Aside0.mk (Kd.R_below (zr HO163) hb); have n1_ := Aside0.mk (Kd.R_below (zr HO166) hb); have n2_ := Aside0.mk (below_step (zs0 HB) hb); clear HO163 HO166 HB; revert n0_ n1_ n2_; intro HO163 HO166 HB; (try clear hb); (try clear hb2); (try clear hk); (try clear hi)) | ((with_reducible refine gate_callee (f := 18) rfl ?_); refine goesL_ (some 29) rfl rfl Try.func18 (by kernel_rfl) rfl #[.slice A0 l0.length c0] rfl zl ?_; (with_reducible refine (laws_toHandZoneS.calls k _ _ l0 t168 _ ?side1 ?side2 A13.out).mono ?_); (case side1 => exact zC HR0 HB); (case side2 => exact HC0.out); rintro e w63 ⟨v169, rfl, ho0, hb⟩; refine ⟨_, rfl, ?_⟩; have n0_ := Aside0.mk (Kd.R_elder' (zr HO163) (Kd.R_base ho0) hb); have n1_ := Aside0.mk (Kd.R_below (zr HO166) hb); have n2_ := Aside0.mk (Kd.R_lower (Kd.R_new' ho0 (Kd.R_lt (zr HO163))) (below_size (zs0 HB))); have n3_ := Aside0.mk (below_step (zs0 HB) hb); clear HO163; clear HO166; clear HB; have HO163 := n0_; have HO166 := n1_; have HO170 := n2_; have HB := n3_; clear n0_ n1_ n2_ n3_; (try clear hb); (try clear hb2); (try clear hk); (try clear hi); (try clear ho0)) | ((with_reducible refine gate_callee (f := 19) rfl ?_); refine goesL_ (some 31) rfl rfl Try.func19 (by kernel_rfl) rfl #[.slice A1 l1.length c1] rfl zl ?_; (with_reducible refine (laws_toHandBoxS.calls k _ _ l1 t171 _ ?side1 ?side2 A14.out).mono ?_); (case side1 => exact zC HR1 HB); (case side2 => exact HC1.out); rintro e w64 ⟨v172, rfl, ho0, hb⟩; refine ⟨_, rfl, ?_⟩; have n0_ := Aside0.mk (Kd.R_below (zr HO163) hb); have n1_ := Aside0.mk (Kd.R_elder' (zr HO166) (Kd.R_base ho0) hb); have n2_ := Aside0.mk (Kd.R_below (zr HO170) hb); have n3_ := Aside0.mk (Kd.R_lower (Kd.R_new' ho0 (Kd.R_lt (zr HO166))) (below_size (zs0 HB))); have n4_ := Aside0.mk (below_step (zs0 HB) hb); clear HO163; clear HO166; clear HO170; clear HB; have HO163 := n0_; have HO166 := n1_; have HO170 := n2_; have HO173 := n3_; have HB := n4_; clear n0_ n1_ n2_ n3_ n4_; (try clear hb); (try clear hb2); (try clear hk); (try clear hi); (try clear ho0); obtain ⟨Ao65, co65, eo65⟩ := Kd.R_slice HO170.out; subst eo65; obtain ⟨Ao66, co66, eo66⟩ := Kd.R_slice HO173.out; subst eo66) | ((with_reducible refine gate_callee (f := 20) rfl ?_); refine goesL_ (some 35) rfl rfl Try.func20 (by kernel_rfl) rfl #[.slice Ao65 t168.length co65, .slice Ao66 t171.length co66, .int .i64 a2] rfl zl ?_; (with_reducible refine (impl_LapDue.calls k _ _ t168 _ _ t171 a2 t174 _ ?side1 ?side2 ?side3 ?side4 A15.out).mono ?_); (case side1 => repeat (first | exact (Kd.R_reads' HO170.out).2.2 | (with_reducible refine Kd.C_alloc ?_ _) | (with_reducible refine Kd.C_drewN ?_ _) | (with_reducible refine Kd.C_drew ?_))); (case side2 => exact (Kd.R_reads' HO170.out).2.1); (case side3 => repeat (first | exact (Kd.R_reads' HO173.out).2.2 | (with_reducible refine Kd.C_alloc ?_ _) | (with_reducible refine Kd.C_drewN ?_ _) | (with_reducible refine Kd.C_drew ?_))); (case side4 => exact (Kd.R_reads' HO173.out).2.1); rintro e w67 ⟨rfl, hb⟩; refine ⟨_, rfl, ?_⟩; have n0_ := Aside0.mk (Kd.R_below (zr HO163) hb); have n1_ := Aside0.mk (Kd.R_below (zr HO166) hb); have n2_ := Aside0.mk (Kd.R_below (zr HO170) hb); have n3_ := Aside0.mk (Kd.R_below (zr HO173) hb); have n4_ := Aside0.mk (below_step (zs0 HB) hb); clear HO163 HO166 HO170 HO173 HB; revert n0_ n1_ n2_ n3_ n4_; intro HO163 HO166 HO170 HO173 HB; (try clear hb); (try clear hb2); (try clear hk); (try clear hi)) | ((with_reducible refine gate_callee (f := 18) rfl ?_); refine goesL_ (some 41) rfl rfl Try.func18 (by kernel_rfl) rfl #[.slice A0 l0.length c0] rfl zl ?_; (with_reducible refine (laws_toHandZoneS.calls k _ _ l0 t175 _ ?side1 ?side2 A17.out).mono ?_); (case side1 => exact zC HR0 HB); (case side2 => exact HC0.out); rintro e w68 ⟨v176, rfl, ho0, hb⟩; refine ⟨_, rfl, ?_⟩; have n0_ := Aside0.mk (Kd.R_elder' (zr HO163) (Kd.R_base ho0) hb); have n1_ := Aside0.mk (Kd.R_below (zr HO166) hb); have n2_ := Aside0.mk (Kd.R_elder' (zr HO170) (Kd.R_base ho0) hb); have n3_ := Aside0.mk (Kd.R_below (zr HO173) hb); have n4_ := Aside0.mk (Kd.R_lower (Kd.R_new' (Kd.R_new' ho0 (Kd.R_lt (zr HO163))) (Kd.R_lt (zr HO170))) (below_size (zs0 HB))); have n5_ := Aside0.mk (below_step (zs0 HB) hb); clear HO163; clear HO166; clear HO170; clear HO173; clear HB; have HO163 := n0_; have HO166 := n1_; have HO170 := n2_; have HO173 := n3_; have HO177 := n4_; have HB := n5_; clear n0_ n1_ n2_ n3_ n4_ n5_; (try clear hb); (try clear hb2); (try clear hk); (try clear hi); (try clear ho0); obtain ⟨Ao69, co69, eo69⟩ := Kd.R_slice HO177.out; subst eo69) | ((with_reducible refine gate_callee (f := 21) rfl ?_); refine goesL_ (some 42) rfl rfl Try.func21 (by kernel_rfl) rfl #[.slice Ao65 t168.length co65, .slice Ao69 t175.length co69] rfl zl ?_; (with_reducible refine (laws_eqHandZoneS.calls k _ _ t168 _ _ t175 false _ ?side1 ?side2 ?side3 ?side4 A18.out).mono ?_); (case side1 => repeat (first | exact (Kd.R_reads' HO170.out).2.2 | (with_reducible refine Kd.C_alloc ?_ _) | (with_reducible refine Kd.C_drewN ?_ _) | (with_reducible refine Kd.C_drew ?_))); (case side2 => exact (Kd.R_reads' HO170.out).2.1); (case side3 => repeat (first | exact (Kd.R_reads' HO177.out).2.2 | (with_reducible refine Kd.C_alloc ?_ _) | (with_reducible refine Kd.C_drewN ?_ _) | (with_reducible refine Kd.C_drew ?_))); (case side4 => exact (Kd.R_reads' HO177.out).2.1); rintro e w70 ⟨rfl, hb⟩; refine ⟨_, rfl, ?_⟩; have n0_ := Aside0.mk (Kd.R_below (zr HO163) hb); have n1_ := Aside0.mk (Kd.R_below (zr HO166) hb); have n2_ := Aside0.mk (Kd.R_below (zr HO170) hb); have n3_ := Aside0.mk (Kd.R_below (zr HO173) hb); have n4_ := Aside0.mk (Kd.R_below (zr HO177) hb); have n5_ := Aside0.mk (below_step (zs0 HB) hb); clear HO163 HO166 HO170 HO173 HO177 HB; revert n0_ n1_ n2_ n3_ n4_ n5_; intro HO163 HO166 HO170 HO173 HO177 HB; (try clear hb); (try clear hb2); (try clear hk); (try clear hi)))
  go_ret
  exact ⟨ze, zs0 HB⟩
 subst c19
 have H1 : ((laws_toHandBoxS.f k l1).bind fun t179 => ((laws_eqHandBoxS.f k t171 t179).bind fun t182 => (if t182 = true then (some true) else (some false)))) = some r := by rw [if_pos rfl] at H; exact H
 clear H
 have H := H1
 clear H1
 replace H := Option.bind_eq_some_iff.mp H
 obtain ⟨t179, A200, H⟩ := H
 replace H : ((laws_eqHandBoxS.f k t171 t179).bind fun t182 => (if t182 = true then (some true) else (some false))) = some r := H
 have A20 := Aside0.mk A200
 clear A200
 replace H := Option.bind_eq_some_iff.mp H
 obtain ⟨t182, A210, H⟩ := H
 replace H : (if t182 = true then (some true) else (some false)) = some r := H
 have A21 := Aside0.mk A210
 clear A210
 by_cases c22 : t182 = true
 ·subst c22
  have H1 : (some true) = some r := by rw [if_pos rfl] at H; exact H
  clear H
  have H := H1
  clear H1
  obtain rfl := Option.some.inj H
  go_enter Try.func3, Try.ntmps3
  go_wp2_with (first | ((with_reducible refine gate_callee (f := 15) rfl ?_); refine goesL_ (some 14) rfl rfl Try.func15 (by kernel_rfl) rfl #[.slice A0 l0.length c0, .int .i64 1048576] rfl zl ?_; (with_reducible refine (laws_szHandZoneS.calls k _ _ l0 1048576 t159 _ ?side1 ?side2 A4.out).mono ?_); (case side1 => repeat (first | exact HR0.out | (with_reducible refine Kd.C_alloc ?_ _) | (with_reducible refine Kd.C_drewN ?_ _) | (with_reducible refine Kd.C_drew ?_))); (case side2 => exact HC0.out); rintro e w23 ⟨rfl, hb⟩; refine ⟨_, rfl, ?_⟩; have n0_ := Aside0.mk (below_step (zs0 HB) hb); clear HB; revert n0_; intro HB; (try clear hb); (try clear hb2); (try clear hk); (try clear hi)) | ((with_reducible refine gate_callee (f := 16) rfl ?_); refine goesL_ (some 19) rfl rfl Try.func16 (by kernel_rfl) rfl #[.slice A1 l1.length c1, .int .i64 t159] rfl zl ?_; (with_reducible refine (laws_szHandBoxS.calls _ _ l1 t159 t160 _ ?side1 ?side2 A7.out).mono ?_); (case side1 => exact zC HR1 HB); (case side2 => exact HC1.out); rintro e w' ⟨rfl, ⟨nd, rfl⟩⟩; refine ⟨_, rfl, ?_⟩) | ((with_reducible refine gate_callee (f := 18) rfl ?_); refine goesL_ (some 23) rfl rfl Try.func18 (by kernel_rfl) rfl #[.slice A0 l0.length c0] rfl zl ?_; (with_reducible refine (laws_toHandZoneS.calls k _ _ l0 t161 _ ?side1 ?side2 A10.out).mono ?_); (case side1 => repeat (first | exact (Kd.C_below HR0.out (zs0 HB)) | (with_reducible refine Kd.C_alloc ?_ _) | (with_reducible refine Kd.C_drewN ?_ _) | (with_reducible refine Kd.C_drew ?_))); (case side2 => exact HC0.out); rintro e w24 ⟨v162, rfl, ho0, hb⟩; refine ⟨_, rfl, ?_⟩; have n0_ := Aside0.mk (Kd.R_lower ho0 (below_size (zs0 HB))); have n1_ := Aside0.mk (below_step (zs0 HB) hb); clear HB; have HO163 := n0_; have HB := n1_; clear n0_ n1_; (try clear hb); (try clear hb2); (try clear hk); (try clear hi); (try clear ho0)) | ((with_reducible refine gate_callee (f := 19) rfl ?_); refine goesL_ (some 25) rfl rfl Try.func19 (by kernel_rfl) rfl #[.slice A1 l1.length c1] rfl zl ?_; (with_reducible refine (laws_toHandBoxS.calls k _ _ l1 t164 _ ?side1 ?side2 A11.out).mono ?_); (case side1 => exact zC HR1 HB); (case side2 => exact HC1.out); rintro e w25 ⟨v165, rfl, ho0, hb⟩; refine ⟨_, rfl, ?_⟩; have n0_ := Aside0.mk (Kd.R_below (zr HO163) hb); have n1_ := Aside0.mk (Kd.R_lower ho0 (below_size (zs0 HB))); have n2_ := Aside0.mk (below_step (zs0 HB) hb); clear HO163; clear HB; have HO163 := n0_; have HO166 := n1_; have HB := n2_; clear n0_ n1_ n2_; (try clear hb); (try clear hb2); (try clear hk); (try clear hi); (try clear ho0); obtain ⟨Ao26, co26, eo26⟩ := Kd.R_slice HO163.out; subst eo26; obtain ⟨Ao27, co27, eo27⟩ := Kd.R_slice HO166.out; subst eo27) | ((with_reducible refine gate_callee (f := 17) rfl ?_); refine goesL_ (some 27) rfl rfl Try.func17 (by kernel_rfl) rfl #[.slice Ao26 t161.length co26, .slice Ao27 t164.length co27, .int .i64 a2] rfl zl ?_; (with_reducible refine (spec_LapDue.calls k _ _ t161 _ _ t164 a2 t167 _ ?side1 ?side2 ?side3 ?side4 A12.out).mono ?_); (case side1 => repeat (first | exact (Kd.R_reads' HO163.out).2.2 | (with_reducible refine Kd.C_alloc ?_ _) | (with_reducible refine Kd.C_drewN ?_ _) | (with_reducible refine Kd.C_drew ?_))); (case side2 => exact (Kd.R_reads' HO163.out).2.1); (case side3 => repeat (first | exact (Kd.R_reads' HO166.out).2.2 | (with_reducible refine Kd.C_alloc ?_ _) | (with_reducible refine Kd.C_drewN ?_ _) | (with_reducible refine Kd.C_drew ?_))); (case side4 => exact (Kd.R_reads' HO166.out).2.1); rintro e w28 ⟨rfl, hb⟩; refine ⟨_, rfl, ?_⟩; have n0_ := Aside0.mk (Kd.R_below (zr HO163) hb); have n1_ := Aside0.mk (Kd.R_below (zr HO166) hb); have n2_ := Aside0.mk (below_step (zs0 HB) hb); clear HO163 HO166 HB; revert n0_ n1_ n2_; intro HO163 HO166 HB; (try clear hb); (try clear hb2); (try clear hk); (try clear hi)) | ((with_reducible refine gate_callee (f := 18) rfl ?_); refine goesL_ (some 29) rfl rfl Try.func18 (by kernel_rfl) rfl #[.slice A0 l0.length c0] rfl zl ?_; (with_reducible refine (laws_toHandZoneS.calls k _ _ l0 t168 _ ?side1 ?side2 A13.out).mono ?_); (case side1 => exact zC HR0 HB); (case side2 => exact HC0.out); rintro e w29 ⟨v169, rfl, ho0, hb⟩; refine ⟨_, rfl, ?_⟩; have n0_ := Aside0.mk (Kd.R_elder' (zr HO163) (Kd.R_base ho0) hb); have n1_ := Aside0.mk (Kd.R_below (zr HO166) hb); have n2_ := Aside0.mk (Kd.R_lower (Kd.R_new' ho0 (Kd.R_lt (zr HO163))) (below_size (zs0 HB))); have n3_ := Aside0.mk (below_step (zs0 HB) hb); clear HO163; clear HO166; clear HB; have HO163 := n0_; have HO166 := n1_; have HO170 := n2_; have HB := n3_; clear n0_ n1_ n2_ n3_; (try clear hb); (try clear hb2); (try clear hk); (try clear hi); (try clear ho0)) | ((with_reducible refine gate_callee (f := 19) rfl ?_); refine goesL_ (some 31) rfl rfl Try.func19 (by kernel_rfl) rfl #[.slice A1 l1.length c1] rfl zl ?_; (with_reducible refine (laws_toHandBoxS.calls k _ _ l1 t171 _ ?side1 ?side2 A14.out).mono ?_); (case side1 => exact zC HR1 HB); (case side2 => exact HC1.out); rintro e w30 ⟨v172, rfl, ho0, hb⟩; refine ⟨_, rfl, ?_⟩; have n0_ := Aside0.mk (Kd.R_below (zr HO163) hb); have n1_ := Aside0.mk (Kd.R_elder' (zr HO166) (Kd.R_base ho0) hb); have n2_ := Aside0.mk (Kd.R_below (zr HO170) hb); have n3_ := Aside0.mk (Kd.R_lower (Kd.R_new' ho0 (Kd.R_lt (zr HO166))) (below_size (zs0 HB))); have n4_ := Aside0.mk (below_step (zs0 HB) hb); clear HO163; clear HO166; clear HO170; clear HB; have HO163 := n0_; have HO166 := n1_; have HO170 := n2_; have HO173 := n3_; have HB := n4_; clear n0_ n1_ n2_ n3_ n4_; (try clear hb); (try clear hb2); (try clear hk); (try clear hi); (try clear ho0); obtain ⟨Ao31, co31, eo31⟩ := Kd.R_slice HO170.out; subst eo31; obtain ⟨Ao32, co32, eo32⟩ := Kd.R_slice HO173.out; subst eo32) | ((with_reducible refine gate_callee (f := 20) rfl ?_); refine goesL_ (some 35) rfl rfl Try.func20 (by kernel_rfl) rfl #[.slice Ao31 t168.length co31, .slice Ao32 t171.length co32, .int .i64 a2] rfl zl ?_; (with_reducible refine (impl_LapDue.calls k _ _ t168 _ _ t171 a2 t174 _ ?side1 ?side2 ?side3 ?side4 A15.out).mono ?_); (case side1 => repeat (first | exact (Kd.R_reads' HO170.out).2.2 | (with_reducible refine Kd.C_alloc ?_ _) | (with_reducible refine Kd.C_drewN ?_ _) | (with_reducible refine Kd.C_drew ?_))); (case side2 => exact (Kd.R_reads' HO170.out).2.1); (case side3 => repeat (first | exact (Kd.R_reads' HO173.out).2.2 | (with_reducible refine Kd.C_alloc ?_ _) | (with_reducible refine Kd.C_drewN ?_ _) | (with_reducible refine Kd.C_drew ?_))); (case side4 => exact (Kd.R_reads' HO173.out).2.1); rintro e w33 ⟨rfl, hb⟩; refine ⟨_, rfl, ?_⟩; have n0_ := Aside0.mk (Kd.R_below (zr HO163) hb); have n1_ := Aside0.mk (Kd.R_below (zr HO166) hb); have n2_ := Aside0.mk (Kd.R_below (zr HO170) hb); have n3_ := Aside0.mk (Kd.R_below (zr HO173) hb); have n4_ := Aside0.mk (below_step (zs0 HB) hb); clear HO163 HO166 HO170 HO173 HB; revert n0_ n1_ n2_ n3_ n4_; intro HO163 HO166 HO170 HO173 HB; (try clear hb); (try clear hb2); (try clear hk); (try clear hi)) | ((with_reducible refine gate_callee (f := 18) rfl ?_); refine goesL_ (some 41) rfl rfl Try.func18 (by kernel_rfl) rfl #[.slice A0 l0.length c0] rfl zl ?_; (with_reducible refine (laws_toHandZoneS.calls k _ _ l0 t175 _ ?side1 ?side2 A17.out).mono ?_); (case side1 => exact zC HR0 HB); (case side2 => exact HC0.out); rintro e w34 ⟨v176, rfl, ho0, hb⟩; refine ⟨_, rfl, ?_⟩; have n0_ := Aside0.mk (Kd.R_elder' (zr HO163) (Kd.R_base ho0) hb); have n1_ := Aside0.mk (Kd.R_below (zr HO166) hb); have n2_ := Aside0.mk (Kd.R_elder' (zr HO170) (Kd.R_base ho0) hb); have n3_ := Aside0.mk (Kd.R_below (zr HO173) hb); have n4_ := Aside0.mk (Kd.R_lower (Kd.R_new' (Kd.R_new' ho0 (Kd.R_lt (zr HO163))) (Kd.R_lt (zr HO170))) (below_size (zs0 HB))); have n5_ := Aside0.mk (below_step (zs0 HB) hb); clear HO163; clear HO166; clear HO170; clear HO173; clear HB; have HO163 := n0_; have HO166 := n1_; have HO170 := n2_; have HO173 := n3_; have HO177 := n4_; have HB := n5_; clear n0_ n1_ n2_ n3_ n4_ n5_; (try clear hb); (try clear hb2); (try clear hk); (try clear hi); (try clear ho0); obtain ⟨Ao35, co35, eo35⟩ := Kd.R_slice HO177.out; subst eo35) | ((with_reducible refine gate_callee (f := 21) rfl ?_); refine goesL_ (some 42) rfl rfl Try.func21 (by kernel_rfl) rfl #[.slice Ao31 t168.length co31, .slice Ao35 t175.length co35] rfl zl ?_; (with_reducible refine (laws_eqHandZoneS.calls k _ _ t168 _ _ t175 true _ ?side1 ?side2 ?side3 ?side4 A18.out).mono ?_); (case side1 => repeat (first | exact (Kd.R_reads' HO170.out).2.2 | (with_reducible refine Kd.C_alloc ?_ _) | (with_reducible refine Kd.C_drewN ?_ _) | (with_reducible refine Kd.C_drew ?_))); (case side2 => exact (Kd.R_reads' HO170.out).2.1); (case side3 => repeat (first | exact (Kd.R_reads' HO177.out).2.2 | (with_reducible refine Kd.C_alloc ?_ _) | (with_reducible refine Kd.C_drewN ?_ _) | (with_reducible refine Kd.C_drew ?_))); (case side4 => exact (Kd.R_reads' HO177.out).2.1); rintro e w36 ⟨rfl, hb⟩; refine ⟨_, rfl, ?_⟩; have n0_ := Aside0.mk (Kd.R_below (zr HO163) hb); have n1_ := Aside0.mk (Kd.R_below (zr HO166) hb); have n2_ := Aside0.mk (Kd.R_below (zr HO170) hb); have n3_ := Aside0.mk (Kd.R_below (zr HO173) hb); have n4_ := Aside0.mk (Kd.R_below (zr HO177) hb); have n5_ := Aside0.mk (below_step (zs0 HB) hb); clear HO163 HO166 HO170 HO173 HO177 HB; revert n0_ n1_ n2_ n3_ n4_ n5_; intro HO163 HO166 HO170 HO173 HO177 HB; (try clear hb); (try clear hb2); (try clear hk); (try clear hi)) | ((with_reducible refine gate_callee (f := 19) rfl ?_); refine goesL_ (some 46) rfl rfl Try.func19 (by kernel_rfl) rfl #[.slice A1 l1.length c1] rfl zl ?_; (with_reducible refine (laws_toHandBoxS.calls k _ _ l1 t179 _ ?side1 ?side2 A20.out).mono ?_); (case side1 => exact zC HR1 HB); (case side2 => exact HC1.out); rintro e w37 ⟨v180, rfl, ho0, hb⟩; refine ⟨_, rfl, ?_⟩; have n0_ := Aside0.mk (Kd.R_below (zr HO163) hb); have n1_ := Aside0.mk (Kd.R_elder' (zr HO166) (Kd.R_base ho0) hb); have n2_ := Aside0.mk (Kd.R_below (zr HO170) hb); have n3_ := Aside0.mk (Kd.R_elder' (zr HO173) (Kd.R_base ho0) hb); have n4_ := Aside0.mk (Kd.R_below (zr HO177) hb); have n5_ := Aside0.mk (Kd.R_lower (Kd.R_new' (Kd.R_new' ho0 (Kd.R_lt (zr HO166))) (Kd.R_lt (zr HO173))) (below_size (zs0 HB))); have n6_ := Aside0.mk (below_step (zs0 HB) hb); clear HO163; clear HO166; clear HO170; clear HO173; clear HO177; clear HB; have HO163 := n0_; have HO166 := n1_; have HO170 := n2_; have HO173 := n3_; have HO177 := n4_; have HO181 := n5_; have HB := n6_; clear n0_ n1_ n2_ n3_ n4_ n5_ n6_; (try clear hb); (try clear hb2); (try clear hk); (try clear hi); (try clear ho0); obtain ⟨Ao38, co38, eo38⟩ := Kd.R_slice HO181.out; subst eo38) | ((with_reducible refine gate_callee (f := 22) rfl ?_); refine goesL_ (some 47) rfl rfl Try.func22 (by kernel_rfl) rfl #[.slice Ao32 t171.length co32, .slice Ao38 t179.length co38] rfl zl ?_; (with_reducible refine (laws_eqHandBoxS.calls k _ _ t171 _ _ t179 true _ ?side1 ?side2 ?side3 ?side4 A21.out).mono ?_); (case side1 => repeat (first | exact (Kd.R_reads' HO173.out).2.2 | (with_reducible refine Kd.C_alloc ?_ _) | (with_reducible refine Kd.C_drewN ?_ _) | (with_reducible refine Kd.C_drew ?_))); (case side2 => exact (Kd.R_reads' HO173.out).2.1); (case side3 => repeat (first | exact (Kd.R_reads' HO181.out).2.2 | (with_reducible refine Kd.C_alloc ?_ _) | (with_reducible refine Kd.C_drewN ?_ _) | (with_reducible refine Kd.C_drew ?_))); (case side4 => exact (Kd.R_reads' HO181.out).2.1); rintro e w39 ⟨rfl, hb⟩; refine ⟨_, rfl, ?_⟩; have n0_ := Aside0.mk (Kd.R_below (zr HO163) hb); have n1_ := Aside0.mk (Kd.R_below (zr HO166) hb); have n2_ := Aside0.mk (Kd.R_below (zr HO170) hb); have n3_ := Aside0.mk (Kd.R_below (zr HO173) hb); have n4_ := Aside0.mk (Kd.R_below (zr HO177) hb); have n5_ := Aside0.mk (Kd.R_below (zr HO181) hb); have n6_ := Aside0.mk (below_step (zs0 HB) hb); clear HO163 HO166 HO170 HO173 HO177 HO181 HB; revert n0_ n1_ n2_ n3_ n4_ n5_ n6_; intro HO163 HO166 HO170 HO173 HO177 HO181 HB; (try clear hb); (try clear hb2); (try clear hk); (try clear hi)))
  go_ret
  exact ⟨ze, zs0 HB⟩
 replace c22 := Bool.eq_false_iff.mpr c22
 subst c22
 have H1 : (some false) = some r := by rw [if_neg (show ¬ (false = true) by decide)] at H; exact H
 clear H
 have H := H1
 clear H1
 obtain rfl := Option.some.inj H
 go_enter Try.func3, Try.ntmps3
 go_wp2_with (first | ((with_reducible refine gate_callee (f := 15) rfl ?_); refine goesL_ (some 14) rfl rfl Try.func15 (by kernel_rfl) rfl #[.slice A0 l0.length c0, .int .i64 1048576] rfl zl ?_; (with_reducible refine (laws_szHandZoneS.calls k _ _ l0 1048576 t159 _ ?side1 ?side2 A4.out).mono ?_); (case side1 => repeat (first | exact HR0.out | (with_reducible refine Kd.C_alloc ?_ _) | (with_reducible refine Kd.C_drewN ?_ _) | (with_reducible refine Kd.C_drew ?_))); (case side2 => exact HC0.out); rintro e w40 ⟨rfl, hb⟩; refine ⟨_, rfl, ?_⟩; have n0_ := Aside0.mk (below_step (zs0 HB) hb); clear HB; revert n0_; intro HB; (try clear hb); (try clear hb2); (try clear hk); (try clear hi)) | ((with_reducible refine gate_callee (f := 16) rfl ?_); refine goesL_ (some 19) rfl rfl Try.func16 (by kernel_rfl) rfl #[.slice A1 l1.length c1, .int .i64 t159] rfl zl ?_; (with_reducible refine (laws_szHandBoxS.calls _ _ l1 t159 t160 _ ?side1 ?side2 A7.out).mono ?_); (case side1 => exact zC HR1 HB); (case side2 => exact HC1.out); rintro e w' ⟨rfl, ⟨nd, rfl⟩⟩; refine ⟨_, rfl, ?_⟩) | ((with_reducible refine gate_callee (f := 18) rfl ?_); refine goesL_ (some 23) rfl rfl Try.func18 (by kernel_rfl) rfl #[.slice A0 l0.length c0] rfl zl ?_; (with_reducible refine (laws_toHandZoneS.calls k _ _ l0 t161 _ ?side1 ?side2 A10.out).mono ?_); (case side1 => repeat (first | exact (Kd.C_below HR0.out (zs0 HB)) | (with_reducible refine Kd.C_alloc ?_ _) | (with_reducible refine Kd.C_drewN ?_ _) | (with_reducible refine Kd.C_drew ?_))); (case side2 => exact HC0.out); rintro e w41 ⟨v162, rfl, ho0, hb⟩; refine ⟨_, rfl, ?_⟩; have n0_ := Aside0.mk (Kd.R_lower ho0 (below_size (zs0 HB))); have n1_ := Aside0.mk (below_step (zs0 HB) hb); clear HB; have HO163 := n0_; have HB := n1_; clear n0_ n1_; (try clear hb); (try clear hb2); (try clear hk); (try clear hi); (try clear ho0)) | ((with_reducible refine gate_callee (f := 19) rfl ?_); refine goesL_ (some 25) rfl rfl Try.func19 (by kernel_rfl) rfl #[.slice A1 l1.length c1] rfl zl ?_; (with_reducible refine (laws_toHandBoxS.calls k _ _ l1 t164 _ ?side1 ?side2 A11.out).mono ?_); (case side1 => exact zC HR1 HB); (case side2 => exact HC1.out); rintro e w42 ⟨v165, rfl, ho0, hb⟩; refine ⟨_, rfl, ?_⟩; have n0_ := Aside0.mk (Kd.R_below (zr HO163) hb); have n1_ := Aside0.mk (Kd.R_lower ho0 (below_size (zs0 HB))); have n2_ := Aside0.mk (below_step (zs0 HB) hb); clear HO163; clear HB; have HO163 := n0_; have HO166 := n1_; have HB := n2_; clear n0_ n1_ n2_; (try clear hb); (try clear hb2); (try clear hk); (try clear hi); (try clear ho0); obtain ⟨Ao43, co43, eo43⟩ := Kd.R_slice HO163.out; subst eo43; obtain ⟨Ao44, co44, eo44⟩ := Kd.R_slice HO166.out; subst eo44) | ((with_reducible refine gate_callee (f := 17) rfl ?_); refine goesL_ (some 27) rfl rfl Try.func17 (by kernel_rfl) rfl #[.slice Ao43 t161.length co43, .slice Ao44 t164.length co44, .int .i64 a2] rfl zl ?_; (with_reducible refine (spec_LapDue.calls k _ _ t161 _ _ t164 a2 t167 _ ?side1 ?side2 ?side3 ?side4 A12.out).mono ?_); (case side1 => repeat (first | exact (Kd.R_reads' HO163.out).2.2 | (with_reducible refine Kd.C_alloc ?_ _) | (with_reducible refine Kd.C_drewN ?_ _) | (with_reducible refine Kd.C_drew ?_))); (case side2 => exact (Kd.R_reads' HO163.out).2.1); (case side3 => repeat (first | exact (Kd.R_reads' HO166.out).2.2 | (with_reducible refine Kd.C_alloc ?_ _) | (with_reducible refine Kd.C_drewN ?_ _) | (with_reducible refine Kd.C_drew ?_))); (case side4 => exact (Kd.R_reads' HO166.out).2.1); rintro e w45 ⟨rfl, hb⟩; refine ⟨_, rfl, ?_⟩; have n0_ := Aside0.mk (Kd.R_below (zr HO163) hb); have n1_ := Aside0.mk (Kd.R_below (zr HO166) hb); have n2_ := Aside0.mk (below_step (zs0 HB) hb); clear HO163 HO166 HB; revert n0_ n1_ n2_; intro HO163 HO166 HB; (try clear hb); (try clear hb2); (try clear hk); (try clear hi)) | ((with_reducible refine gate_callee (f := 18) rfl ?_); refine goesL_ (some 29) rfl rfl Try.func18 (by kernel_rfl) rfl #[.slice A0 l0.length c0] rfl zl ?_; (with_reducible refine (laws_toHandZoneS.calls k _ _ l0 t168 _ ?side1 ?side2 A13.out).mono ?_); (case side1 => exact zC HR0 HB); (case side2 => exact HC0.out); rintro e w46 ⟨v169, rfl, ho0, hb⟩; refine ⟨_, rfl, ?_⟩; have n0_ := Aside0.mk (Kd.R_elder' (zr HO163) (Kd.R_base ho0) hb); have n1_ := Aside0.mk (Kd.R_below (zr HO166) hb); have n2_ := Aside0.mk (Kd.R_lower (Kd.R_new' ho0 (Kd.R_lt (zr HO163))) (below_size (zs0 HB))); have n3_ := Aside0.mk (below_step (zs0 HB) hb); clear HO163; clear HO166; clear HB; have HO163 := n0_; have HO166 := n1_; have HO170 := n2_; have HB := n3_; clear n0_ n1_ n2_ n3_; (try clear hb); (try clear hb2); (try clear hk); (try clear hi); (try clear ho0)) | ((with_reducible refine gate_callee (f := 19) rfl ?_); refine goesL_ (some 31) rfl rfl Try.func19 (by kernel_rfl) rfl #[.slice A1 l1.length c1] rfl zl ?_; (with_reducible refine (laws_toHandBoxS.calls k _ _ l1 t171 _ ?side1 ?side2 A14.out).mono ?_); (case side1 => exact zC HR1 HB); (case side2 => exact HC1.out); rintro e w47 ⟨v172, rfl, ho0, hb⟩; refine ⟨_, rfl, ?_⟩; have n0_ := Aside0.mk (Kd.R_below (zr HO163) hb); have n1_ := Aside0.mk (Kd.R_elder' (zr HO166) (Kd.R_base ho0) hb); have n2_ := Aside0.mk (Kd.R_below (zr HO170) hb); have n3_ := Aside0.mk (Kd.R_lower (Kd.R_new' ho0 (Kd.R_lt (zr HO166))) (below_size (zs0 HB))); have n4_ := Aside0.mk (below_step (zs0 HB) hb); clear HO163; clear HO166; clear HO170; clear HB; have HO163 := n0_; have HO166 := n1_; have HO170 := n2_; have HO173 := n3_; have HB := n4_; clear n0_ n1_ n2_ n3_ n4_; (try clear hb); (try clear hb2); (try clear hk); (try clear hi); (try clear ho0); obtain ⟨Ao48, co48, eo48⟩ := Kd.R_slice HO170.out; subst eo48; obtain ⟨Ao49, co49, eo49⟩ := Kd.R_slice HO173.out; subst eo49) | ((with_reducible refine gate_callee (f := 20) rfl ?_); refine goesL_ (some 35) rfl rfl Try.func20 (by kernel_rfl) rfl #[.slice Ao48 t168.length co48, .slice Ao49 t171.length co49, .int .i64 a2] rfl zl ?_; (with_reducible refine (impl_LapDue.calls k _ _ t168 _ _ t171 a2 t174 _ ?side1 ?side2 ?side3 ?side4 A15.out).mono ?_); (case side1 => repeat (first | exact (Kd.R_reads' HO170.out).2.2 | (with_reducible refine Kd.C_alloc ?_ _) | (with_reducible refine Kd.C_drewN ?_ _) | (with_reducible refine Kd.C_drew ?_))); (case side2 => exact (Kd.R_reads' HO170.out).2.1); (case side3 => repeat (first | exact (Kd.R_reads' HO173.out).2.2 | (with_reducible refine Kd.C_alloc ?_ _) | (with_reducible refine Kd.C_drewN ?_ _) | (with_reducible refine Kd.C_drew ?_))); (case side4 => exact (Kd.R_reads' HO173.out).2.1); rintro e w50 ⟨rfl, hb⟩; refine ⟨_, rfl, ?_⟩; have n0_ := Aside0.mk (Kd.R_below (zr HO163) hb); have n1_ := Aside0.mk (Kd.R_below (zr HO166) hb); have n2_ := Aside0.mk (Kd.R_below (zr HO170) hb); have n3_ := Aside0.mk (Kd.R_below (zr HO173) hb); have n4_ := Aside0.mk (below_step (zs0 HB) hb); clear HO163 HO166 HO170 HO173 HB; revert n0_ n1_ n2_ n3_ n4_; intro HO163 HO166 HO170 HO173 HB; (try clear hb); (try clear hb2); (try clear hk); (try clear hi)) | ((with_reducible refine gate_callee (f := 18) rfl ?_); refine goesL_ (some 41) rfl rfl Try.func18 (by kernel_rfl) rfl #[.slice A0 l0.length c0] rfl zl ?_; (with_reducible refine (laws_toHandZoneS.calls k _ _ l0 t175 _ ?side1 ?side2 A17.out).mono ?_); (case side1 => exact zC HR0 HB); (case side2 => exact HC0.out); rintro e w51 ⟨v176, rfl, ho0, hb⟩; refine ⟨_, rfl, ?_⟩; have n0_ := Aside0.mk (Kd.R_elder' (zr HO163) (Kd.R_base ho0) hb); have n1_ := Aside0.mk (Kd.R_below (zr HO166) hb); have n2_ := Aside0.mk (Kd.R_elder' (zr HO170) (Kd.R_base ho0) hb); have n3_ := Aside0.mk (Kd.R_below (zr HO173) hb); have n4_ := Aside0.mk (Kd.R_lower (Kd.R_new' (Kd.R_new' ho0 (Kd.R_lt (zr HO163))) (Kd.R_lt (zr HO170))) (below_size (zs0 HB))); have n5_ := Aside0.mk (below_step (zs0 HB) hb); clear HO163; clear HO166; clear HO170; clear HO173; clear HB; have HO163 := n0_; have HO166 := n1_; have HO170 := n2_; have HO173 := n3_; have HO177 := n4_; have HB := n5_; clear n0_ n1_ n2_ n3_ n4_ n5_; (try clear hb); (try clear hb2); (try clear hk); (try clear hi); (try clear ho0); obtain ⟨Ao52, co52, eo52⟩ := Kd.R_slice HO177.out; subst eo52) | ((with_reducible refine gate_callee (f := 21) rfl ?_); refine goesL_ (some 42) rfl rfl Try.func21 (by kernel_rfl) rfl #[.slice Ao48 t168.length co48, .slice Ao52 t175.length co52] rfl zl ?_; (with_reducible refine (laws_eqHandZoneS.calls k _ _ t168 _ _ t175 true _ ?side1 ?side2 ?side3 ?side4 A18.out).mono ?_); (case side1 => repeat (first | exact (Kd.R_reads' HO170.out).2.2 | (with_reducible refine Kd.C_alloc ?_ _) | (with_reducible refine Kd.C_drewN ?_ _) | (with_reducible refine Kd.C_drew ?_))); (case side2 => exact (Kd.R_reads' HO170.out).2.1); (case side3 => repeat (first | exact (Kd.R_reads' HO177.out).2.2 | (with_reducible refine Kd.C_alloc ?_ _) | (with_reducible refine Kd.C_drewN ?_ _) | (with_reducible refine Kd.C_drew ?_))); (case side4 => exact (Kd.R_reads' HO177.out).2.1); rintro e w53 ⟨rfl, hb⟩; refine ⟨_, rfl, ?_⟩; have n0_ := Aside0.mk (Kd.R_below (zr HO163) hb); have n1_ := Aside0.mk (Kd.R_below (zr HO166) hb); have n2_ := Aside0.mk (Kd.R_below (zr HO170) hb); have n3_ := Aside0.mk (Kd.R_below (zr HO173) hb); have n4_ := Aside0.mk (Kd.R_below (zr HO177) hb); have n5_ := Aside0.mk (below_step (zs0 HB) hb); clear HO163 HO166 HO170 HO173 HO177 HB; revert n0_ n1_ n2_ n3_ n4_ n5_; intro HO163 HO166 HO170 HO173 HO177 HB; (try clear hb); (try clear hb2); (try clear hk); (try clear hi)) | ((with_reducible refine gate_callee (f := 19) rfl ?_); refine goesL_ (some 46) rfl rfl Try.func19 (by kernel_rfl) rfl #[.slice A1 l1.length c1] rfl zl ?_; (with_reducible refine (laws_toHandBoxS.calls k _ _ l1 t179 _ ?side1 ?side2 A20.out).mono ?_); (case side1 => exact zC HR1 HB); (case side2 => exact HC1.out); rintro e w54 ⟨v180, rfl, ho0, hb⟩; refine ⟨_, rfl, ?_⟩; have n0_ := Aside0.mk (Kd.R_below (zr HO163) hb); have n1_ := Aside0.mk (Kd.R_elder' (zr HO166) (Kd.R_base ho0) hb); have n2_ := Aside0.mk (Kd.R_below (zr HO170) hb); have n3_ := Aside0.mk (Kd.R_elder' (zr HO173) (Kd.R_base ho0) hb); have n4_ := Aside0.mk (Kd.R_below (zr HO177) hb); have n5_ := Aside0.mk (Kd.R_lower (Kd.R_new' (Kd.R_new' ho0 (Kd.R_lt (zr HO166))) (Kd.R_lt (zr HO173))) (below_size (zs0 HB))); have n6_ := Aside0.mk (below_step (zs0 HB) hb); clear HO163; clear HO166; clear HO170; clear HO173; clear HO177; clear HB; have HO163 := n0_; have HO166 := n1_; have HO170 := n2_; have HO173 := n3_; have HO177 := n4_; have HO181 := n5_; have HB := n6_; clear n0_ n1_ n2_ n3_ n4_ n5_ n6_; (try clear hb); (try clear hb2); (try clear hk); (try clear hi); (try clear ho0); obtain ⟨Ao55, co55, eo55⟩ := Kd.R_slice HO181.out; subst eo55) | ((with_reducible refine gate_callee (f := 22) rfl ?_); refine goesL_ (some 47) rfl rfl Try.func22 (by kernel_rfl) rfl #[.slice Ao49 t171.length co49, .slice Ao55 t179.length co55] rfl zl ?_; (with_reducible refine (laws_eqHandBoxS.calls k _ _ t171 _ _ t179 false _ ?side1 ?side2 ?side3 ?side4 A21.out).mono ?_); (case side1 => repeat (first | exact (Kd.R_reads' HO173.out).2.2 | (with_reducible refine Kd.C_alloc ?_ _) | (with_reducible refine Kd.C_drewN ?_ _) | (with_reducible refine Kd.C_drew ?_))); (case side2 => exact (Kd.R_reads' HO173.out).2.1); (case side3 => repeat (first | exact (Kd.R_reads' HO181.out).2.2 | (with_reducible refine Kd.C_alloc ?_ _) | (with_reducible refine Kd.C_drewN ?_ _) | (with_reducible refine Kd.C_drew ?_))); (case side4 => exact (Kd.R_reads' HO181.out).2.1); rintro e w56 ⟨rfl, hb⟩; refine ⟨_, rfl, ?_⟩; have n0_ := Aside0.mk (Kd.R_below (zr HO163) hb); have n1_ := Aside0.mk (Kd.R_below (zr HO166) hb); have n2_ := Aside0.mk (Kd.R_below (zr HO170) hb); have n3_ := Aside0.mk (Kd.R_below (zr HO173) hb); have n4_ := Aside0.mk (Kd.R_below (zr HO177) hb); have n5_ := Aside0.mk (Kd.R_below (zr HO181) hb); have n6_ := Aside0.mk (below_step (zs0 HB) hb); clear HO163 HO166 HO170 HO173 HO177 HO181 HB; revert n0_ n1_ n2_ n3_ n4_ n5_ n6_; intro HO163 HO166 HO170 HO173 HO177 HO181 HB; (try clear hb); (try clear hb2); (try clear hk); (try clear hi)))
 go_ret
 exact ⟨ze, zs0 HB⟩
end Go.Proofs.Ytbmplfpnhjhoiaa.QFnExactLapDue
